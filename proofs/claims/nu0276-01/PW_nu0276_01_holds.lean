import PyProof.Rows.All
import OpenK.KMake
import Open.Line
import OpenK.KWalk
import OpenK.KMore
import KE.KDictOf
import Wide.FinOn
import Wide.All
import Lean
import PySem.Challenge.RW_nu0276_01
set_option Elab.async false
section
open PySem PySem.W PyProof.Rows
set_option maxRecDepth 100000
namespace Mine
noncomputable section
set_option genSizeOf false

/-! ## abstract values, objects, heaps -/
inductive V where
  | none | bool (b : Bool) | int (i : Int) | str (s : Str) | ref (i : Nat) | st (v : Value)

inductive O where
  | list (xs : List V) | tuple (xs : List V)
  | dictI (kvs : List (Int × V)) | dictS (kvs : List (Str × V)) | dictT (kvs : List (List Int × V))
  | inst (C : Addr) (d : Nat) | attrs (kvs : List (Str × V)) | range (a b : Int)

abbrev Hp := List O
abbrev Loc := List (Str × V)

noncomputable def look {κ : Type} [DecidableEq κ] (k : κ) : List (κ × V) → Option V
  | [] => .none
  | p :: r => if p.1 = k then some p.2 else look k r
noncomputable def put {κ : Type} [DecidableEq κ] (k : κ) (v : V) : List (κ × V) → List (κ × V)
  | [] => [(k, v)]
  | p :: r => if p.1 = k then (k, v) :: r else p :: put k v r

/-- the program's tables -/
structure Tabs where
  glob : List (Str × Value)
  blt : List (Str × Value)
  fn : Addr → Option FuncData
  init : List (Addr × Addr)
  meth : List (Addr × Str × Addr)
  attr : List (Addr × Str)
  ro : Value → Option (List Int)

abbrev CallOp := Addr → List V → Hp → (V → Hp → Prop) → Prop

structure Ops where
  ev : Scope → PySem.Expr → Loc → Hp → (V → Hp → Prop) → Prop
  ts : Scope → PySem.Expr → Loc → Hp → (Bool → Hp → Prop) → Prop
  asg : Scope → PySem.Expr → V → Loc → Hp → (Loc → Hp → Prop) → Prop
  ex : Scope → PySem.Stmt → Loc → Hp → (Loc → Hp → Prop) → (V → Hp → Prop) → (Loc → Hp → Prop) → Prop

noncomputable def brB (c : Bool) (A B : Prop) : Prop := match c with | true => A | false => B
noncomputable def onO {α : Type} (o : Option α) (Q : α → Prop) : Prop := match o with | some a => Q a | .none => False

/-! ## primitives -/
noncomputable def ints? : List V → Option (List Int)
  | [] => some []
  | .int i :: r => match ints? r with | some l => some (i :: l) | .none => .none
  | _ :: _ => .none

noncomputable def newO (H : Hp) (o : O) (Q : V → Hp → Prop) : Prop := Q (.ref H.length) (H ++ [o])
noncomputable def newDict (H : Hp) (Q : V → Hp → Prop) : Prop := newO H (.dictI []) Q ∨ newO H (.dictT []) Q

noncomputable def attrOf (T : Tabs) (H : Hp) (v : V) (n : Str) : Option V := match v with
  | .ref i => match H[i]? with
    | some (.inst C d) => if T.attr.contains (C, n) then (match H[d]? with | some (.attrs kvs) => look n kvs | _ => .none) else .none
    | _ => .none
  | _ => .none
noncomputable def plainV : V → Bool
  | .st _ => false
  | _ => true
noncomputable def gAttr (T : Tabs) (H : Hp) (v : V) (n : Str) (Q : V → Hp → Prop) : Prop := onO (attrOf T H v n) fun r => plainV r = true ∧ Q r H
noncomputable def sAttr (T : Tabs) (H : Hp) (o : V) (n : Str) (v : V) (Q : Hp → Prop) : Prop := match o with
  | .ref i => match H[i]? with
    | some (.inst C d) => T.attr.contains (C, n) = true ∧ (match H[d]? with | some (.attrs kvs) => kvs.length < 100 ∧ plainV v = true ∧ Q (H.set d (.attrs (put n v kvs))) | _ => False)
    | _ => False
  | _ => False

noncomputable def tupKey (H : Hp) (v : V) : Option (List Int) := match v with
  | .ref j => match H[j]? with | some (.tuple xs) => ints? xs | _ => .none
  | _ => .none
noncomputable def itemOf (xs : List V) (k : Int) : Option V := if 0 ≤ k then (if k < 2 ^ 40 then xs[k.toNat]? else .none) else if k = -1 then xs.getLast? else .none
noncomputable def subOf (H : Hp) (o k : V) : Option V := match o with
  | .ref i => match H[i]? with
    | some (.list xs) => (match k with | .int n => itemOf xs n | _ => .none)
    | some (.tuple xs) => (match k with | .int n => if 0 ≤ n then itemOf xs n else .none | _ => .none)
    | some (.dictI kvs) => (match k with | .int n => look n kvs | _ => .none)
    | some (.dictS kvs) => (match k with | .str n => look n kvs | _ => .none)
    | some (.dictT kvs) => (match tupKey H k with | some t => look t kvs | .none => .none)
    | _ => .none
  | _ => .none
noncomputable def gSub (H : Hp) (o k : V) (Q : V → Hp → Prop) : Prop := onO (subOf H o k) fun r => Q r H
noncomputable def lim : Nat := 2 ^ 20
noncomputable def sSub (H : Hp) (o k v : V) (Q : Hp → Prop) : Prop := match o with
  | .ref i => match H[i]? with
    | some (.dictI kvs) => (match k with | .int n => kvs.length < lim ∧ Q (H.set i (.dictI (put n v kvs))) | _ => False)
    | some (.dictS kvs) => (match k with | .str n => kvs.length < lim ∧ Q (H.set i (.dictS (put n v kvs))) | _ => False)
    | some (.dictT kvs) => onO (tupKey H k) fun t => look t kvs = .none ∧ kvs.length < lim ∧ Q (H.set i (.dictT (put t v kvs)))
    | _ => False
  | _ => False

noncomputable def hasOf (H : Hp) (d k : V) : Option Bool := match d with
  | .ref i => match H[i]? with
    | some (.dictI kvs) => (match k with | .int n => some (look n kvs).isSome | _ => .none)
    | some (.dictT kvs) => (match tupKey H k with | some t => some (look t kvs).isSome | .none => .none)
    | _ => .none
  | _ => .none
noncomputable def cmpV (op : CmpOp) (a b : V) (H : Hp) (Q : Bool → Prop) : Prop := match op with
  | .Eq => match a, b with | .int x, .int y => Q (x == y) | .str x, .str y => Q (x == y) | _, _ => False
  | .NotEq => match a, b with | .int x, .int y => Q (x != y) | .str x, .str y => Q (x != y) | _, _ => False
  | .Lt => match a, b with | .int x, .int y => Q (decide (x < y)) | _, _ => False
  | .LtE => match a, b with | .int x, .int y => Q (decide (x ≤ y)) | _, _ => False
  | .Gt => match a, b with | .int x, .int y => Q (decide (y < x)) | _, _ => False
  | .In => onO (hasOf H b a) Q
  | .NotIn => onO (hasOf H b a) fun c => Q (!c)
  | _ => False

noncomputable def smallI (i : Int) : Prop := -(2 ^ 40) ≤ i ∧ i ≤ 2 ^ 40
noncomputable def seqOf (H : Hp) (v : V) : Option (List V) := match v with
  | .ref i => match H[i]? with | some (.list xs) => some xs | _ => .none
  | _ => .none
noncomputable def binV (op : Operator) (a b : V) (H : Hp) (Q : V → Hp → Prop) : Prop := match a, b with
  | .int x, .int y => match op with
    | .Add => Q (.int (x + y)) H
    | .Sub => Q (.int (x - y)) H
    | .Mult => smallI x ∧ smallI y ∧ Q (.int (x * y)) H
    | .Mod => 0 < y ∧ Q (.int (Int.fmod x y)) H
    | .FloorDiv => 0 < y ∧ y ≤ 1048576 ∧ Q (.int (Int.fdiv x y)) H
    | .Pow => x = 2 ∧ 0 ≤ y ∧ y ≤ 40 ∧ Q (.int (2 ^ y.toNat)) H
    | .LShift => smallI x ∧ 0 ≤ y ∧ y ≤ 40 ∧ Q (.int (x * 2 ^ y.toNat)) H
    | .BitAnd => Q (.int (Builtin.bitAnd x y)) H
    | .BitOr => Q (.int (Builtin.bitOr x y)) H
    | .BitXor => Q (.int (Builtin.bitXor x y)) H
    | _ => False
  | a, b => match op with
    | .Add => onO (seqOf H a) fun xs => onO (seqOf H b) fun ys => xs.length + ys.length < lim ∧ newO H (.list (xs ++ ys)) Q
    | _ => False

noncomputable def reprInts (l : List Int) : PyData := .list (l.map PyData.int)

/-- what a loop goes over -/
noncomputable def itemsOf (o : O) : Option (List V) := match o with
  | .list xs => some xs
  | .tuple xs => some xs
  | .dictI kvs => some (kvs.map fun p => .int p.1)
  | .range a b => some ((List.range (b - a).toNat).map fun (i : Nat) => V.int (a + (i : Int)))
  | _ => .none
noncomputable def lenOf (o : O) : Option Nat := match o with
  | .list xs => some xs.length
  | .tuple xs => some xs.length
  | .dictI kvs => some kvs.length
  | _ => .none
noncomputable def bltV (id : String) (vs : List V) (H : Hp) (Q : V → Hp → Prop) : Prop := match vs with
  | [.int i] => if id = "abs" then Q (.int (i.natAbs : Int)) H else False
  | [.ref i] => onO H[i]? fun o =>
      if id = "len" then onO (lenOf o) fun n => n < lim ∧ Q (.int n) H
      else if id = "sorted" then (match o with
        | .dictI kvs => kvs.length < 64 ∧ ∀ l : List Int, l.Perm (kvs.map (·.1)) → l.Pairwise (· ≤ ·) → newO H (.list (l.map V.int)) Q
        | _ => False)
      else if id = "sum" then onO (seqOf H (.ref i)) fun xs => onO (ints? xs) fun l => Q (.int l.sum) H
      else if id = "repr" then onO (seqOf H (.ref i)) fun xs => onO (ints? xs) fun l => (reprInts l).showable = true ∧ (reprInts l).shown.length ≤ lim ∧ Q (.str (reprInts l).shown) H
      else False
  | _ => False
noncomputable def typV (id : String) (vs : List V) (H : Hp) (Q : V → Hp → Prop) : Prop := match vs with
  | [.int i] =>
      if id = "int" then Q (.int i) H
      else if id = "range" then smallI i ∧ newO H (.range 0 i) Q
      else False
  | [.int i, .int j] => if id = "range" then smallI i ∧ smallI j ∧ newO H (.range i j) Q else False
  | [.ref i] =>
      if id = "tuple" then onO (seqOf H (.ref i)) fun xs => xs.length < lim ∧ newO H (.tuple xs) Q
      else if id = "list" then onO (seqOf H (.ref i)) fun xs => xs.length < lim ∧ newO H (.list xs) Q
      else if id = "dict" then onO H[i]? fun o => match o with | .dictI kvs => kvs.length < lim ∧ newO H (.dictI kvs) Q | _ => False
      else False
  | _ => False

/-- a static callee called -/
noncomputable def callV (T : Tabs) (cl : CallOp) (f : Value) (vs : List V) (H : Hp) (Q : V → Hp → Prop) : Prop := match f with
  | .ref a => match T.init.lookup a with
    | some fi => cl fi (.ref (H.length + 1) :: vs) (H ++ [.attrs [], .inst a H.length]) fun v H2 => v = .none ∧ Q (.ref (H.length + 1)) H2
    | .none => cl a vs H Q
  | .builtin id => bltV id vs H Q
  | .type id => typV id vs H Q
  | _ => False

noncomputable def putAll (kvs : List (Int × V)) : List (Int × V) → List (Int × V)
  | [] => kvs
  | p :: r => putAll (put p.1 p.2 kvs) r
/-- a method called: the receiver looked at when the method is, the rest behind the arguments -/
inductive Mth where
  | fn (a : Addr) | app | pop | ext | get | upd
noncomputable def methOf (T : Tabs) (H : Hp) (o : V) (n : Str) : Option Mth := match o with
  | .ref i => match H[i]? with
    | some (.inst C d) => match H[d]? with
      | some (.attrs kvs) => if (look n kvs).isNone then (match (T.meth.find? fun t => t.1 == C && t.2.1 == n) with | some t => some (.fn t.2.2) | .none => .none) else .none
      | _ => .none
    | some (.list _) => if n = ("append" : Str) then some .app else if n = ("pop" : Str) then some .pop else if n = ("extend" : Str) then some .ext else .none
    | some (.dictI _) => if n = ("get" : Str) then some .get else if n = ("update" : Str) then some .upd else .none
    | _ => .none
  | _ => .none
noncomputable def appV (o : V) (vs : List V) (H : Hp) (Q : V → Hp → Prop) : Prop := match o with
  | .ref i => (match vs with | [v] => onO (seqOf H o) fun xs => xs.length < lim ∧ Q .none (H.set i (.list (xs ++ [v]))) | _ => False)
  | _ => False
noncomputable def popV (o : V) (vs : List V) (H : Hp) (Q : V → Hp → Prop) : Prop := match o with
  | .ref i => (match vs with | [] => onO (seqOf H o) fun xs => onO xs.getLast? fun v => xs.length < lim ∧ Q v (H.set i (.list xs.dropLast)) | _ => False)
  | _ => False
noncomputable def extV (o : V) (vs : List V) (H : Hp) (Q : V → Hp → Prop) : Prop := match o with
  | .ref i => (match vs with | [w] => onO (seqOf H o) fun xs => onO (seqOf H w) fun ys => xs.length + ys.length < lim ∧ Q .none (H.set i (.list (xs ++ ys))) | _ => False)
  | _ => False
noncomputable def getV (o : V) (vs : List V) (H : Hp) (Q : V → Hp → Prop) : Prop := match o with
  | .ref i => (match vs with | [.int k, d] => onO H[i]? fun ob => (match ob with | .dictI kvs => Q ((look k kvs).getD d) H | _ => False) | _ => False)
  | _ => False
noncomputable def updV (o : V) (vs : List V) (H : Hp) (Q : V → Hp → Prop) : Prop := match o with
  | .ref i => (match vs with
    | [.ref j] => onO H[i]? fun ob => onO H[j]? fun oc => (match ob with
      | .dictI kvs => (match oc with | .dictI lvs => i ≠ j ∧ kvs.length + lvs.length < lim ∧ Q .none (H.set i (.dictI (putAll kvs lvs))) | _ => False)
      | _ => False)
    | _ => False)
  | _ => False
noncomputable def methV (cl : CallOp) (up : Bool) (mt : Mth) (o : V) (vs : List V) (H : Hp) (Q : V → Hp → Prop) : Prop := match mt with
  | .fn a => cl a (o :: vs) H Q
  | .app => appV o vs H Q
  | .pop => popV o vs H Q
  | .ext => extV o vs H Q
  | .get => getV o vs H Q
  | .upd => brB up (updV o vs H Q) False

/-! ## combinators -/
noncomputable def evs (r : Ops) (sc : Scope) : List PySem.Expr → Loc → Hp → (List V → Hp → Prop) → Prop
  | [], _, H, Q => Q [] H
  | e :: es, m, H, Q => r.ev sc e m H fun v H1 => evs r sc es m H1 fun vs H2 => Q (v :: vs) H2
noncomputable def exs (r : Ops) (sc : Scope) : List PySem.Stmt → Loc → Hp → (Loc → Hp → Prop) → (V → Hp → Prop) → (Loc → Hp → Prop) → Prop
  | [], m, H, kn, _, _ => kn m H
  | s :: ss, m, H, kn, kr, kc => r.ex sc s m H (fun m1 H1 => exs r sc ss m1 H1 kn kr kc) kr kc
noncomputable def cas1 (vs : List V) (f : V → List V → Prop) : Prop := match vs with | v :: r => f v r | [] => False
noncomputable def cas0 (vs : List V) (p : Prop) : Prop := match vs with | [] => p | _ => False
noncomputable def asgs (r : Ops) (sc : Scope) : List PySem.Expr → List V → Loc → Hp → (Loc → Hp → Prop) → Prop
  | [] => fun vs m H Q => cas0 vs (Q m H)
  | t :: ts => fun vs m H Q => cas1 vs fun v r' => r.asg sc t v m H fun m1 H1 => asgs r sc ts r' m1 H1 Q
/-- a loop's turns over items; `ok`: what is gone over stands as it stood -/
noncomputable def forL (body : V → Loc → Hp → (Loc → Hp → Prop) → Prop) (ok : Hp → Prop) : List V → Loc → Hp → (Loc → Hp → Prop) → Prop
  | [], m, H, kn => kn m H
  | v :: vs, m, H, kn => body v m H fun m1 H1 => ok H1 ∧ forL body ok vs m1 H1 kn
noncomputable def whl (t : Loc → Hp → (Bool → Hp → Prop) → Prop) (b : Loc → Hp → (Loc → Hp → Prop) → Prop) : Nat → Loc → Hp → (Loc → Hp → Prop) → Prop
  | 0, _, _, _ => False
  | n + 1, m, H, kn => t m H fun c H1 => brB c (b m H1 fun m2 H2 => whl t b n m2 H2 kn) (kn m H1)
/-- a comprehension's turns: items gathered -/
noncomputable def cmpL (turn : V → Hp → (Option V → Hp → Prop) → Prop) (ok : Hp → Prop) : List V → List V → Hp → (List V → Hp → Prop) → Prop
  | [], acc, H, Q => Q acc H
  | v :: vs, acc, H, Q => turn v H fun w H1 => ok H1 ∧ cmpL turn ok vs (match w with | some x => acc ++ [x] | .none => acc) H1 Q
noncomputable def seqItems (o : O) : Option (List V) := match o with
  | .dictI _ => .none
  | o => itemsOf o
/-- over a dict only where the turns are quiet (no call, no update) -/
noncomputable def overV (quiet : Bool) (H : Hp) (v : V) (Q : List V → (Hp → Prop) → Prop) : Prop := match v with
  | .ref i => onO H[i]? fun o => onO (match quiet with | true => itemsOf o | false => seqItems o) fun xs => Q xs fun H' => H'[i]? = some o
  | _ => False
/-- no call but of `get` -/
noncomputable def quietE : Nat → PySem.Expr → Bool
  | 0, _ => false
  | n + 1, e => match e with
    | .Constant .. => true
    | .Name .. => true
    | .BinOp a _ b _ => quietE n a && quietE n b
    | .Compare a _ bs _ => quietE n a && bs.all (quietE n)
    | .Attribute a _ _ => quietE n a
    | .Subscript a b _ => quietE n a && quietE n b
    | .Call (.Attribute a m _) bs [] _ => m == ("get" : Str) && quietE n a && bs.all (quietE n)
    | _ => false
noncomputable def quietSs : List PySem.Stmt → Bool
  | [] => true
  | .Assign [t] e _ :: r => quietE 5 t && quietE 5 e && quietSs r
  | _ :: _ => false
noncomputable def names? : List PySem.Expr → Option (List Str)
  | [] => some []
  | .Name x _ :: r => match names? r with | some l => some (x :: l) | .none => .none
  | _ :: _ => .none
noncomputable def nodupB : List Str → Bool
  | [] => true
  | x :: r => !r.contains x && nodupB r
noncomputable def isLoc (sc : Scope) (x : Str) : Bool := match sc.names.lookup x with | some .local => true | _ => false
noncomputable def isCel (sc : Scope) (x : Str) : Bool := match sc.names.lookup x with | some .cell => true | some .free => true | _ => false
noncomputable def isFree (sc : Scope) (x : Str) : Bool := match sc.names.lookup x with | some .free => true | _ => false
noncomputable def freeOf (scope : Scope) (m : Loc) : Loc := m.filter fun p => isFree scope p.1
/-- a target that is a tuple of local names, no name twice -/
noncomputable def tgtLoc (sc : Scope) (t : PySem.Expr) : Option (List Str) := match t with
  | .Tuple es _ _ => (match names? es with | some xs => (match xs.all (isLoc sc) && nodupB xs with | true => some xs | false => .none) | .none => .none)
  | _ => .none
noncomputable def bindN (H : Hp) (xs : List Str) (v : V) (m : Loc) (Q : Loc → Prop) : Prop := match v with
  | .ref i => onO H[i]? fun o => match o with
    | .tuple vs => vs.length = xs.length ∧ Q ((xs.zip vs).reverse ++ m)
    | _ => False
  | _ => False
/-- a comprehension's targets bound -/
noncomputable def bindT (sc : Scope) (H : Hp) (t : PySem.Expr) (v : V) (m : Loc) (Q : Loc → Prop) : Prop := match t with
  | .Name x _ => brB (isLoc sc x) (Q ((x, v) :: m)) False
  | t => onO (tgtLoc sc t) fun xs => bindN H xs v m Q
noncomputable def testL (r : Ops) (sc : Scope) : List PySem.Expr → Loc → Hp → (Bool → Hp → Prop) → Prop
  | [], _, H, Q => Q true H
  | [e], m, H, Q => r.ts sc e m H Q
  | _, _, _, _ => False
noncomputable def compTurnA (r : Ops) (scope : Scope) (elt tgt : PySem.Expr) (ifs : List PySem.Expr) (m : Loc) (v : V) (H : Hp) (Q : Option V → Hp → Prop) : Prop :=
  bindT scope H tgt v (freeOf scope m) fun m1 => testL r scope ifs m1 H fun c H1 => brB c (r.ev scope elt m1 H1 fun y H2 => Q (some y) H2) (Q .none H1)

noncomputable def pairsI? : List (V × V) → Option (List (Int × V))
  | [] => some []
  | (.int k, v) :: r => match pairsI? r with | some l => some ((k, v) :: l) | .none => .none
  | _ :: _ => .none
noncomputable def pairsS? : List (V × V) → Option (List (Str × V))
  | [] => some []
  | (.str k, v) :: r => match pairsS? r with | some l => some ((k, v) :: l) | .none => .none
  | _ :: _ => .none
noncomputable def evPairs (r : Ops) (sc : Scope) : List (Option PySem.Expr) → List PySem.Expr → Loc → Hp → (List (V × V) → Hp → Prop) → Prop
  | [], [], _, H, Q => Q [] H
  | some k :: ks, v :: vs, m, H, Q => r.ev sc k m H fun kv H1 => r.ev sc v m H1 fun vv H2 => evPairs r sc ks vs m H2 fun ps H3 => Q ((kv, vv) :: ps) H3
  | _, _, _, _, _ => False

noncomputable def scopeOk (sc s : Scope) : Bool := (match s.kind with | .function => true | _ => false) && s.names.all (fun p => match p.2 with | .cell => false | .local => isLoc s p.1 | .free => isCel sc p.1 && isFree s p.1 | _ => true)

noncomputable def strKey (k : Option PySem.Expr) : Bool := match k with | some (.Constant (.str _) _ _) => true | _ => false
noncomputable def noStar (es : List PySem.Expr) : Bool := es.all fun e => match e with | .Starred .. => false | _ => true
noncomputable def notSet (e : PySem.Expr) : Bool := match e with | .Set .. => false | _ => true
noncomputable def notSuper (e : PySem.Expr) : Bool := match e with | .Call (.Name ..) _ _ _ => false | _ => true
noncomputable def isName (e : PySem.Expr) : Bool := match e with | .Name .. => true | _ => false
noncomputable def okName (x : Str) : Bool := !(x == ("__debug__" : Str)) && !(x == ("__classdict__" : Str))
noncomputable def shortCall (as : List PySem.Expr) (a b : Pos) : Bool := noStar as && decide (as.length < 29) && a.endLine == b.line

noncomputable def statOf (T : Tabs) (x : Str) : Option Value := match T.glob.lookup x with
  | some v => some v
  | .none => T.blt.lookup x
noncomputable def isGlo (sc : Scope) (x : Str) : Bool := match sc.names.lookup x with | some .globalImplicit => true | _ => false

/-! ## one step of the evaluator -/
noncomputable def roOf (T : Tabs) (v : V) : Option (List Int) := match v with
  | .st c => T.ro c
  | _ => .none
noncomputable def subStep (T : Tabs) (r : Ops) (sc : Scope) (o i : PySem.Expr) (m : Loc) (H : Hp) (Q : V → Hp → Prop) : Prop := match i with
  | .Slice .none (some (.Constant (.int u) _ _)) .none _ => brB (decide (0 ≤ u) && isName o) (r.ev sc o m H fun v H1 => onO (roOf T v) fun xs => xs.length < lim ∧ newO H1 (.list ((xs.map V.int).take u.toNat)) Q) False
  | i => r.ev sc o m H fun u H1 => r.ev sc i m H1 fun k H2 => gSub H2 u k Q
noncomputable def evStep (T : Tabs) (cl : CallOp) (up : Bool) (r r' : Ops) (sc : Scope) (e : PySem.Expr) (m : Loc) (H : Hp) (Q : V → Hp → Prop) : Prop := match e with
  | .Constant c _ _ => match c with
    | .none => Q .none H
    | .bool b => Q (.bool b) H
    | .int i => Q (.int i) H
    | .str s => Q (.str s) H
    | _ => False
  | .Name x _ => brB (okName x) (match sc.names.lookup x with
    | some .local => onO (m.lookup x) fun v => Q v H
    | some .cell => onO (m.lookup x) fun v => Q v H
    | some .free => onO (m.lookup x) fun v => Q v H
    | some .globalImplicit => onO (statOf T x) fun v => Q (.st v) H
    | _ => False) False
  | .BinOp a op b _ => r.ev sc a m H fun u H1 => r.ev sc b m H1 fun v H2 => binV op u v H2 Q
  | .UnaryOp .USub a _ => r.ev sc a m H fun u H1 => match u with | .int i => Q (.int (-i)) H1 | _ => False
  | .IfExp t a b _ => r.ts sc t m H fun c H1 => brB c (r.ev sc a m H1 Q) (r.ev sc b m H1 Q)
  | .BoolOp .Or [a, b] _ => r.ev sc a m H fun u H1 => match u with | .bool c => brB c (Q (.bool true) H1) (r.ev sc b m H1 Q) | _ => False
  | .Compare a [op] [b] _ => brB (behindInMarks op b) False <| r.ev sc a m H fun u H1 => r.ev sc b m H1 fun v H2 => cmpV op u v H2 fun c => Q (.bool c) H2
  | .Attribute o n _ => brB (notSuper o) (r.ev sc o m H fun u H1 => gAttr T H1 u n Q) False
  | .Subscript o i _ => subStep T r sc o i m H Q
  | .Tuple es _ _ => brB (noStar es && decide (es.length < 99)) (evs r sc es m H fun vs H1 => newO H1 (.tuple vs) Q) False
  | .List es _ => brB (noStar es && decide (es.length < 99)) (evs r sc es m H fun vs H1 => newO H1 (.list vs) Q) False
  | .Dict ks vs _ => match ks with
    | [] => (match vs with | [] => newDict H Q | _ => False)
    | ks => brB (ks.all (·.isSome) && decide (ks.length = vs.length) && decide (ks.length < 15)) (match ks.all strKey with
      | true => evPairs r sc ks vs m H fun ps H1 => onO (pairsS? ps) fun l => brB (nodupB (l.map (·.1))) (newO H1 (.dictS l) Q) False
      | false => evPairs r sc ks vs m H fun ps H1 => onO (pairsI? ps) fun l => newO H1 (.dictI (putAll [] l)) Q) False
  | .Call f as [] pos => match f with
    | .Attribute o n ap => brB (notSuper o && shortCall as ap pos) (r.ev sc o m H fun u H1 => onO (methOf T H1 u n) fun mt => evs r sc as m H1 fun vs H2 => methV cl up mt u vs H2 Q) False
    | .Name x _ => brB (noStar as && okName x && isGlo sc x) (onO (statOf T x) fun f => evs r sc as m H fun vs H2 => callV T cl f vs H2 Q) False
    | _ => False
  | .ListComp elt [⟨tgt, it, ifs, a⟩] scope _ => brB (decide (a = 0) && scopeOk sc scope && notSet it) (r.ev sc it m H fun x H1 => overV (quietE 5 elt && ifs.all (quietE 5)) H1 x fun xs ok =>
      xs.length < lim ∧ cmpL (compTurnA (match quietE 5 elt && ifs.all (quietE 5) with | true => r' | false => r) scope elt tgt ifs m) ok xs [] H1 fun ys H2 => newO H2 (.list ys) Q) False
  | _ => False

noncomputable def tsStep (r : Ops) (sc : Scope) (e : PySem.Expr) (m : Loc) (H : Hp) (Q : Bool → Hp → Prop) : Prop := match e with
  | .UnaryOp .Not x _ => r.ts sc x m H fun c H1 => Q (!c) H1
  | .BoolOp op es _ => match op, es with
    | .And, [a, b] => r.ts sc a m H fun c H1 => brB c (r.ts sc b m H1 Q) (Q false H1)
    | .Or, [a, b] => r.ts sc a m H fun c H1 => brB c (Q true H1) (r.ts sc b m H1 Q)
    | _, _ => False
  | .Compare a [op] [b] _ => brB (behindInMarks op b) False <| r.ev sc a m H fun u H1 => r.ev sc b m H1 fun v H2 => cmpV op u v H2 fun c => Q c H2
  | .IfExp .. => False
  | .Compare .. => False
  | e => r.ev sc e m H fun u H1 => match u with | .bool c => Q c H1 | _ => False

noncomputable def asgStep (T : Tabs) (r : Ops) (sc : Scope) (t : PySem.Expr) (v : V) (m : Loc) (H : Hp) (Q : Loc → Hp → Prop) : Prop := match t with
  | .Name x _ => match sc.names.lookup x with
    | some .local => Q ((x, v) :: m) H
    | some .cell => Q ((x, v) :: m) H
    | _ => False
  | .Attribute o n _ => r.ev sc o m H fun u H1 => sAttr T H1 u n v fun H2 => Q m H2
  | .Subscript o i _ => r.ev sc o m H fun u H1 => r.ev sc i m H1 fun k H2 => sSub H2 u k v fun H3 => Q m H3
  | .Tuple ts _ _ => brB (noStar ts) (match v with
    | .ref i => onO H[i]? fun o => match o with
      | .tuple vs => vs.length = ts.length ∧ asgs r sc ts vs m H Q
      | .list vs => vs.length = ts.length ∧ asgs r sc ts vs m H Q
      | _ => False
    | _ => False) False
  | _ => False

noncomputable def dropOk (e : PySem.Expr) : Bool := match e with | .Call .. => true | _ => false
/-- no store of it is a plain local one among others -/
noncomputable def anyNot (sc : Scope) (ts : List PySem.Expr) : Bool := ts.any fun t => match t with | .Name x _ => !isLoc sc x | _ => true
noncomputable def notComp (e : PySem.Expr) : Bool := match e with
  | .SetComp .. => false
  | .DictComp .. => false
  | _ => true
noncomputable def notLC (e : PySem.Expr) : Bool := match e with
  | .ListComp .. => false
  | _ => true
noncomputable def asgTup (sc : Scope) (ts : List PySem.Expr) (t e : PySem.Expr) : Bool := match e with
  | .Tuple vs _ _ => !vs.all (constantsAlone 8) && (anyNot sc ts || (tgtLoc sc t).isSome) && noStar ts
  | _ => noStar ts
noncomputable def asgOk (sc : Scope) (t e : PySem.Expr) : Bool := notComp e && (match t with
  | .Tuple ts _ _ => asgTup sc ts t e
  | .Attribute .. => notLC e
  | .Subscript .. => notLC e
  | _ => true)
noncomputable def okTgt (t : PySem.Expr) : Bool := match t with
  | .Name .. => true
  | .Attribute .. => true
  | .Subscript .. => true
  | .Tuple .. => true
  | _ => false
noncomputable def bindL1 (r : Ops) (sc : Scope) (t : PySem.Expr) (v : V) (m : Loc) (H : Hp) (Q : Loc → Hp → Prop) : Prop := match t with
  | .Name x p => brB (isLoc sc x) (Q ((x, v) :: m) H) (r.asg sc (.Name x p) v m H Q)
  | t => match tgtLoc sc t with
    | some xs => bindN H xs v m fun m1 => Q m1 H
    | .none => r.asg sc t v m H Q
noncomputable def exStep (r r' : Ops) (sc : Scope) (s : PySem.Stmt) (m : Loc) (H : Hp) (kn : Loc → Hp → Prop) (kr : V → Hp → Prop) (kc : Loc → Hp → Prop) : Prop := match s with
  | .Expr e _ => brB (dropOk e) (r.ev sc e m H fun u H1 => match u with | .none => kn m H1 | .int _ => kn m H1 | _ => False) False
  | .Return (some e) _ => r.ev sc e m H kr
  | .Continue _ => kc m H
  | .Assign [t] e _ => brB (okTgt t && asgOk sc t e) (r.ev sc e m H fun v H1 => bindL1 r sc t v m H1 kn) False
  | .If t a b _ => r.ts sc t m H fun c H1 => brB c (exs r sc a m H1 kn kr kc) (exs r sc b m H1 kn kr kc)
  | .While t a [] _ => ∃ n, whl (fun m H Q => r.ts sc t m H Q) (fun m H k => exs r sc a m H k kr k) n m H kn
  | .For tgt it a [] _ => brB (notSet it) (r.ev sc it m H fun x H1 => overV (quietSs a) H1 x fun xs ok =>
      forL (match quietSs a with
        | true => fun v m H k => r'.asg sc tgt v m H fun m1 H1 => exs r' sc a m1 H1 k kr k
        | false => fun v m H k => r.asg sc tgt v m H fun m1 H1 => exs r sc a m1 H1 k kr k) ok xs m H1 kn) False
  | _ => False

noncomputable def noOps : Ops := ⟨fun _ _ _ _ _ => False, fun _ _ _ _ _ => False, fun _ _ _ _ _ _ => False, fun _ _ _ _ _ _ _ => False⟩
noncomputable def noCall : CallOp := fun _ _ _ _ => False
noncomputable def stepOps (T : Tabs) (cl : CallOp) (up : Bool) (r r' : Ops) : Ops := ⟨evStep T cl up r r', tsStep r, asgStep T r, exStep r r'⟩
noncomputable def opsQ (T : Tabs) : Nat → Ops
  | 0 => noOps
  | n + 1 => stepOps T noCall false (opsQ T n) (opsQ T n)
noncomputable def ops (T : Tabs) (cl : CallOp) : Nat → Ops
  | 0 => noOps
  | n + 1 => stepOps T cl true (ops T cl n) (opsQ T n)

noncomputable def argNames (fd : FuncData) : List Str := fd.params.args.map (·.arg)
noncomputable def bodyOf (fd : FuncData) : List PySem.Stmt := match fd.body with | .stmts b => b | _ => []
noncomputable def callA (T : Tabs) : Nat → CallOp
  | 0 => fun _ _ _ _ => False
  | d + 1 => fun f vs H Q => onO (T.fn f) fun fd => brB (vs.length == (argNames fd).length)
      (exs (ops T (callA T d) 16) fd.scope (bodyOf fd) (((argNames fd).zip vs).reverse) H (fun _ H1 => Q .none H1) Q (fun _ _ => False)) False
theorem hd {G : Prop} (h : ∀ Z : Prop, (G → Z) → Z) : G := h G id
end
end Mine
end
section
open PySem PySem.W PyProof.Rows
set_option maxRecDepth 100000
namespace Mine

/-! ## abstract and concrete -/
noncomputable def VR (ρ : List Addr) : V → Value → Prop
  | .none, c => c = .none
  | .bool b, c => c = .bool b
  | .int i, c => ∃ t, c = .int i t
  | .str s, c => ∃ t, c = .str s t
  | .ref i, c => ∃ a, ρ[i]? = some a ∧ c = .ref a
  | .st v, c => c = v
inductive VRs (ρ : List Addr) : List V → List Value → Prop
  | nil : VRs ρ [] []
  | cons {v c vs cs} : VR ρ v c → VRs ρ vs cs → VRs ρ (v :: vs) (c :: cs)
inductive KR {κ : Type} (ρ : List Addr) : List (κ × V) → List (κ × Value) → Prop
  | nil : KR ρ [] []
  | cons {k v c vs cs} : VR ρ v c → KR ρ vs cs → KR ρ ((k, v) :: vs) ((k, c) :: cs)
inductive KRT (ρ : List Addr) (H : Hp) : List (List Int × V) → List (List Int × Addr × Value) → Prop
  | nil : KRT ρ H [] []
  | cons {k : List Int} {v : V} {a : Addr} {c : Value} {vs cs} {j : Nat} : VR ρ v c → ρ[j]? = some a → H[j]? = some (O.tuple (k.map V.int)) → KRT ρ H vs cs → KRT ρ H ((k, v) :: vs) ((k, a, c) :: cs)
inductive AR (ρ : List Addr) : List (Str × V) → List DictEntry → Prop
  | nil : AR ρ [] []
  | cons {k v t hs c vs cs} : VR ρ v c → AR ρ vs cs → AR ρ ((k, v) :: vs) (⟨hs, .str k t, c⟩ :: cs)

abbrev sqObj (c : String) (xs : List Value) (n : Nat) : Obj := { cls := .type c, data := .seq xs.toArray n }

noncomputable def OR (prog : Program) (w : World) (ρ : List Addr) (H : Hp) (h : Heap) : O → Addr → Prop
  | .list xs, a => ∃ cs n, h.get? a = some (sqObj "list" cs n) ∧ VRs ρ xs cs
  | .tuple xs, a => ∃ cs n, h.get? a = some (sqObj "tuple" cs n) ∧ VRs ρ xs cs
  | .dictI kvs, a => ∃ cs, h.DictOf (intKind prog w) a cs ∧ KR ρ kvs cs
  | .dictS kvs, a => ∃ cs, h.DictOf (strKind prog w) a cs ∧ KR ρ kvs cs
  | .dictT kvs, a => ∃ cs, h.DictOfH (tupleKind (intKind prog w)) a cs ∧ KRT ρ H kvs cs
  | .inst C d, a => ∃ dx, ρ[d]? = some dx ∧ h.get? a = some (instObj C dx)
  | .attrs kvs, a => ∃ es n, h.get? a = some (dictOf es n) ∧ AR ρ kvs es
  | .range i j, a => ∃ t u v, IsRange h a i j 1 t u v ∧ smallI i ∧ smallI j

structure HX extends Heap where
  os : OsState
  gens : Array GenState
abbrev hxs (s : Shared) : HX := ⟨s.heap, s.os, s.gens⟩
structure Inv (prog : Program) (w : World) (g : HX) (ρ : List Addr) (H : Hp) (h : HX) : Prop where
  stays : ∀ b o, g.get? b = some o → h.get? b = some o
  apart : ∀ a ∈ ρ, g.get? a = none
  len : ρ.length = H.length
  nodup : ρ.Nodup
  objs : ∀ (i : Nat) (o : O) (a : Addr), H[i]? = some o → ρ[i]? = some a → OR prog w ρ H h.toHeap o a
  os : h.os = g.os
  gens : h.gens = g.gens

/-- a dict's keys' count: none goes, none comes without the count growing -/
noncomputable def DM (a : Addr) (h h' : Heap) : Prop := ∀ o es ep, h.get? a = some o → o.data = .dict es ep → ∃ o' es' ep', h'.get? a = some o' ∧ o'.data = .dict es' ep' ∧ (es.size < es'.size ∨ (es.size = es'.size ∧ ep = ep'))

structure Step (P : Addr → Prop) (q : Bool) (ρ ρ' : List Addr) (h h' : Heap) : Prop where
  pre : ∃ t, ρ' = ρ ++ t ∧ ∀ a ∈ t, h.get? a = none
  pres : ∀ a o, h.get? a = some o → a ∉ ρ → ¬ P a → h'.get? a = some o
  live : ∀ a o, h.get? a = some o → ∃ o', h'.get? a = some o'
  dm : q = true → ∀ a ∈ ρ, DM a h h'

noncomputable def nobody : Addr → Prop := fun _ => False

noncomputable def clsK : Option NameKind → Nat
  | some .local => 1
  | some .cell => 2
  | some .free => 2
  | some .globalImplicit => 3
  | _ => 0

structure ER (g : HX) (sc : Scope) (env : Env) (m : Loc) (ρ : List Addr) (h : Heap) : Prop where
  kind : env.scope.kind = .function
  glob : env.globals = mainGlobals
  blt : env.builtins = builtinsNs
  cls : ∀ x, clsK (env.kindOf x) = clsK (sc.names.lookup x)
  cel : ∀ x, sc.names.lookup x = some .cell → env.kindOf x = some .cell
  lo : g.objs.size ≤ env.locals
  apart : env.locals ∉ ρ
  ns : ∃ mL, h.Ns env.locals mL ∧ ∀ x v, env.kindOf x = some .local → m.lookup x = some v → ∃ c, mL x = some c ∧ VR ρ v c
  cells : ∀ x, clsK (env.kindOf x) = 2 → ∃ c, env.cells.lookup x = some c ∧ c ≠ env.locals ∧ c ∉ ρ ∧ g.objs.size ≤ c ∧ ∃ ov, h.IsCell c ov ∧ ∀ v, m.lookup x = some v → ∃ cv, ov = some cv ∧ VR ρ v cv
  inj : ∀ x y c, env.cells.lookup x = some c → env.cells.lookup y = some c → x = y
noncomputable def own (env : Env) : Addr → Prop := fun a => a = env.locals ∨ ∃ x, clsK (env.kindOf x) = 2 ∧ env.cells.lookup x = some a

/-! ## growing -/
theorem pre_get {ρ ρ' t : List Addr} {i : Nat} {a : Addr} (e : ρ' = ρ ++ t) (h : ρ[i]? = some a) : ρ'[i]? = some a := by
  subst e
  have hi : i < ρ.length := (List.getElem?_eq_some_iff.mp h).1
  rw [List.getElem?_append_left hi]; exact h
theorem VR.mono {ρ ρ' t : List Addr} (e : ρ' = ρ ++ t) {v : V} {c : Value} (x : VR ρ v c) : VR ρ' v c := by
  cases v <;> try exact x
  obtain ⟨a, h, hc⟩ := x
  exact ⟨a, pre_get e h, hc⟩
theorem VRs.mono {ρ ρ' t : List Addr} (e : ρ' = ρ ++ t) {vs cs} (x : VRs ρ vs cs) : VRs ρ' vs cs := by
  induction x with
  | nil => exact .nil
  | cons h _ ih => exact .cons (h.mono e) ih
theorem KR.mono {κ : Type} {ρ ρ' t : List Addr} (e : ρ' = ρ ++ t) {vs : List (κ × V)} {cs} (x : KR ρ vs cs) : KR ρ' vs cs := by
  induction x with
  | nil => exact .nil
  | cons h _ ih => exact .cons (h.mono e) ih
theorem AR.mono {ρ ρ' t : List Addr} (e : ρ' = ρ ++ t) {vs cs} (x : AR ρ vs cs) : AR ρ' vs cs := by
  induction x with
  | nil => exact .nil
  | cons h _ ih => exact .cons (h.mono e) ih
/-- the tuples stay -/
noncomputable def Tup (H H' : Hp) : Prop := ∀ (i : Nat) (xs : List V), H[i]? = some (O.tuple xs) → H'[i]? = some (O.tuple xs)
theorem KRT.mono {ρ ρ' t : List Addr} {H H' : Hp} (e : ρ' = ρ ++ t) (hT : Tup H H') {vs cs} (x : KRT ρ H vs cs) : KRT ρ' H' vs cs := by
  induction x with
  | nil => exact .nil
  | cons h a b _ ih => exact .cons (h.mono e) (pre_get e a) (hT _ _ b) ih
theorem VRs.length {ρ vs cs} (x : VRs ρ vs cs) : vs.length = cs.length := by
  induction x with
  | nil => rfl
  | cons _ _ ih => simp [ih]
theorem KR.length {κ : Type} {ρ} {vs : List (κ × V)} {cs} (x : KR ρ vs cs) : vs.length = cs.length := by
  induction x with
  | nil => rfl
  | cons _ _ ih => simp [ih]
theorem KRT.length {ρ H vs cs} (x : KRT ρ H vs cs) : vs.length = cs.length := by
  induction x with
  | nil => rfl
  | cons _ _ _ _ ih => simp [ih]
theorem AR.length {ρ vs cs} (x : AR ρ vs cs) : vs.length = cs.length := by
  induction x with
  | nil => rfl
  | cons _ _ ih => simp [ih]
theorem VRs.get {ρ vs cs} (x : VRs ρ vs cs) : ∀ {i : Nat} {v : V}, vs[i]? = some v → ∃ c, cs[i]? = some c ∧ VR ρ v c := by
  induction x with
  | nil => intro i v h; simp at h
  | cons h _ ih =>
    intro i v hi
    cases i with
    | zero => simp at hi; subst hi; exact ⟨_, rfl, h⟩
    | succ i => simp at hi; obtain ⟨c, a, b⟩ := ih hi; exact ⟨c, by simpa using a, b⟩
theorem VRs.append {ρ vs cs vs' cs'} (x : VRs ρ vs cs) (y : VRs ρ vs' cs') : VRs ρ (vs ++ vs') (cs ++ cs') := by
  induction x with
  | nil => exact y
  | cons h _ ih => exact .cons h ih
theorem VRs.take {ρ vs cs} (x : VRs ρ vs cs) : ∀ n : Nat, VRs ρ (vs.take n) (cs.take n) := by
  induction x with
  | nil => intro n; simp; exact .nil
  | cons h _ ih => intro n; cases n with
    | zero => simp; exact .nil
    | succ n => simp; exact .cons h (ih n)
theorem KR.look {κ : Type} [DecidableEq κ] {ρ} {vs : List (κ × V)} {cs} (x : KR ρ vs cs) (k : κ) : match look k vs with | some v => ∃ c, valueAt cs k = some c ∧ VR ρ v c | .none => valueAt cs k = .none := by
  induction x with
  | nil => rfl
  | @cons k' v c vs cs h _ ih =>
    unfold Mine.look
    by_cases e : k' = k
    · subst e; simp only [if_true]; exact ⟨c, by simp [valueAt], h⟩
    · simp only [if_neg e]
      have : valueAt ((k', c) :: cs) k = valueAt cs k := by simp [valueAt, e]
      rw [this]; exact ih
theorem KR.any {κ : Type} [DecidableEq κ] {ρ} {vs : List (κ × V)} {cs} (x : KR ρ vs cs) (k : κ) : cs.any (fun kv => decide (kv.1 = k)) = (Mine.look k vs).isSome := by
  induction x with
  | nil => rfl
  | @cons k' v c vs cs h _ ih =>
    unfold Mine.look
    by_cases e : k' = k
    · subst e; simp
    · simp [e, ih]
theorem KR.keys {κ : Type} {ρ} {vs : List (κ × V)} {cs} (x : KR ρ vs cs) : vs.map (·.1) = cs.map (·.1) := by
  induction x with
  | nil => rfl
  | cons _ _ ih => simp [ih]
theorem KR.mapv {κ : Type} [DecidableEq κ] {ρ} {vs : List (κ × V)} {cs} (x : KR ρ vs cs) {k : κ} {v : V} {c : Value} (hv : VR ρ v c) (hn : (cs.map (·.1)).Nodup) (hs : (Mine.look k vs).isSome = true) : KR ρ (Mine.put k v vs) (cs.map fun kv => if kv.1 = k then (kv.1, c) else kv) := by
  induction x with
  | nil => cases hs
  | @cons k' v' c' vs cs h t ih =>
    rw [List.map_cons, List.nodup_cons] at hn
    unfold Mine.put
    by_cases e : k' = k
    · subst e
      simp only [if_true, List.map_cons]
      rw [map_store_of_not_mem cs k' c hn.1]
      exact .cons hv t
    · simp only [if_neg e, List.map_cons]
      unfold Mine.look at hs
      simp only [if_neg e] at hs
      exact .cons h (ih hn.2 hs)
theorem KR.snoc {κ : Type} [DecidableEq κ] {ρ} {vs : List (κ × V)} {cs} (x : KR ρ vs cs) {k : κ} {v : V} {c : Value} (hv : VR ρ v c) (hs : (Mine.look k vs).isSome = false) : KR ρ (Mine.put k v vs) (cs ++ [(k, c)]) := by
  induction x with
  | nil => exact .cons hv .nil
  | @cons k' v' c' vs cs h t ih =>
    unfold Mine.look at hs
    by_cases e : k' = k
    · subst e; simp at hs
    · simp only [if_neg e] at hs
      unfold Mine.put
      simp only [if_neg e]
      exact .cons h (ih hs)
theorem KR.stored {κ : Type} [DecidableEq κ] {ρ} {vs : List (κ × V)} {cs} (x : KR ρ vs cs) {k : κ} {v : V} {c : Value} (hv : VR ρ v c) (hn : (cs.map (·.1)).Nodup) : KR ρ (Mine.put k v vs) (PySem.stored cs k c) := by
  unfold PySem.stored
  cases h : (Mine.look k vs).isSome with
  | true => rw [if_pos (by rw [x.any, h])]; exact x.mapv hv hn h
  | false => rw [if_neg (by rw [x.any, h]; exact Bool.false_ne_true)]; exact x.snoc hv h

/-! ## steps -/
theorem Step.refl {P q ρ h} : Step P q ρ ρ h h := ⟨⟨[], by simp, by simp⟩, fun _ _ e _ _ => e, fun _ _ e => ⟨_, e⟩, fun _ _ _ o es ep e d => ⟨o, es, ep, e, d, .inr ⟨rfl, rfl⟩⟩⟩
theorem Step.loose {P q ρ ρ' h h'} (x : Step P true ρ ρ' h h') : Step P q ρ ρ' h h' := ⟨x.pre, x.pres, x.live, fun _ => x.dm rfl⟩
theorem Step.mem {P q ρ ρ' h h'} (x : Step P q ρ ρ' h h') {a : Addr} {o : Obj} (ha : a ∈ ρ') (e : h.get? a = some o) : a ∈ ρ := by
  obtain ⟨t, rfl, ht⟩ := x.pre
  rcases List.mem_append.mp ha with h1 | h1
  · exact h1
  · rw [ht _ h1] at e; cases e
theorem Step.sub {P q ρ ρ' h h'} (x : Step P q ρ ρ' h h') {a : Addr} (ha : a ∈ ρ) : a ∈ ρ' := by
  obtain ⟨t, rfl, _⟩ := x.pre; exact List.mem_append_left _ ha
theorem Step.trans {P q ρ ρ₁ ρ₂ h₀ h₁ h₂} (x : Step P q ρ ρ₁ h₀ h₁) (y : Step P q ρ₁ ρ₂ h₁ h₂) : Step P q ρ ρ₂ h₀ h₂ := by
  refine ⟨?_, fun a o e n p => ?_, fun a o e => let ⟨o1, e1⟩ := x.live a o e; y.live a o1 e1, fun hq a ha o es ep e d => ?_⟩
  · obtain ⟨t, rfl, ht⟩ := x.pre
    obtain ⟨u, rfl, hu⟩ := y.pre
    refine ⟨t ++ u, by rw [List.append_assoc], fun a ha => ?_⟩
    rcases List.mem_append.mp ha with h | h
    · exact ht a h
    · cases e : h₀.get? a with
      | none => rfl
      | some o => obtain ⟨o1, e1⟩ := x.live a o e; rw [hu a h] at e1; cases e1
  · exact y.pres a o (x.pres a o e n p) (fun h => n (x.mem h e)) p
  · obtain ⟨o1, es1, ep1, e1, d1, c1⟩ := x.dm hq a ha o es ep e d
    obtain ⟨o2, es2, ep2, e2, d2, c2⟩ := y.dm hq a (x.sub ha) o1 es1 ep1 e1 d1
    refine ⟨o2, es2, ep2, e2, d2, ?_⟩
    rcases c1 with c1 | ⟨c1, c1'⟩ <;> rcases c2 with c2 | ⟨c2, c2'⟩
    · exact .inl (Nat.lt_trans c1 c2)
    · exact .inl (c2 ▸ c1)
    · exact .inl (c1 ▸ c2)
    · exact .inr ⟨c1.trans c2, c1'.trans c2'⟩
theorem Step.weaken {P P' : Addr → Prop} {q ρ ρ' h h'} (x : Step P q ρ ρ' h h') (hp : ∀ a, P a → P' a) : Step P' q ρ ρ' h h' :=
  ⟨x.pre, fun a o e n p => x.pres a o e n (fun z => p (hp a z)), x.live, x.dm⟩
theorem Step.any {P : Addr → Prop} {q ρ ρ' h h'} (x : Step nobody q ρ ρ' h h') : Step P q ρ ρ' h h' := x.weaken fun _ z => z.elim
/-- only garbage made or changed -/
theorem Step.quiet {P q ρ h h'} (hk : ∀ a o, h.get? a = some o → (P a → False) → h'.get? a = some o) (hl : ∀ a o, h.get? a = some o → ∃ o', h'.get? a = some o') (hρ : ∀ a ∈ ρ, ∀ o, h.get? a = some o → h'.get? a = some o) : Step P q ρ ρ h h' :=
  ⟨⟨[], by simp, by simp⟩, fun a o e _ p => hk a o e p, hl, fun _ a ha o es ep e d => ⟨o, es, ep, hρ a ha o e, d, .inr ⟨rfl, rfl⟩⟩⟩

section
variable {prog : Program} {w : World} {g : HX}

theorem OR.keep {ρ : List Addr} {H : Hp} {h h' : Heap} {o : O} {a : Addr} (x : OR prog w ρ H h o a) (hk : ∀ b ob, (b = a ∨ b ∈ ρ) → h.get? b = some ob → h'.get? b = some ob) : OR prog w ρ H h' o a := by
  have hk' : ∀ ob, h.get? a = some ob → h'.get? a = some ob := fun ob e => hk a ob (.inl rfl) e
  cases o with
  | list xs => obtain ⟨cs, n, e, r⟩ := x; exact ⟨cs, n, hk' _ e, r⟩
  | tuple xs => obtain ⟨cs, n, e, r⟩ := x; exact ⟨cs, n, hk' _ e, r⟩
  | dictI kvs => obtain ⟨cs, ⟨o, es, ep, e, d⟩, r⟩ := x; exact ⟨cs, ⟨o, es, ep, hk' _ e, d⟩, r⟩
  | dictS kvs => obtain ⟨cs, ⟨o, es, ep, e, d⟩, r⟩ := x; exact ⟨cs, ⟨o, es, ep, hk' _ e, d⟩, r⟩
  | dictT kvs =>
    obtain ⟨cs, ⟨o, es, ep, e, c, d, l, is, n⟩, r⟩ := x
    refine ⟨cs, ⟨o, es, ep, hk' _ e, c, d, l, ?_, n⟩, r⟩
    clear l n
    induction r with
    | nil => intro x hx; cases hx
    | @cons k v a' c' vs cs j hv hj hJ _ ih =>
      intro x hx
      rcases List.mem_cons.mp hx with rfl | hx
      · obtain ⟨o1, items, n1, h1, h2⟩ := is _ (List.mem_cons_self ..)
        exact ⟨o1, items, n1, hk _ _ (.inr (List.mem_of_getElem? hj)) h1, h2⟩
      · exact ih (fun y hy => is y (List.mem_cons_of_mem _ hy)) x hx
  | inst C d => obtain ⟨dx, e, r⟩ := x; exact ⟨dx, e, hk' _ r⟩
  | attrs kvs => obtain ⟨es, n, e, r⟩ := x; exact ⟨es, n, hk' _ e, r⟩
  | range m k => obtain ⟨t, u, v, r, z⟩ := x; exact ⟨t, u, v, hk' _ r, z⟩
theorem OR.mono {ρ ρ' t : List Addr} {H H' : Hp} {h : Heap} {o : O} {a : Addr} (e : ρ' = ρ ++ t) (hT : Tup H H') (x : OR prog w ρ H h o a) : OR prog w ρ' H' h o a := by
  cases o with
  | list xs => obtain ⟨cs, n, e', r⟩ := x; exact ⟨cs, n, e', r.mono e⟩
  | tuple xs => obtain ⟨cs, n, e', r⟩ := x; exact ⟨cs, n, e', r.mono e⟩
  | dictI kvs => obtain ⟨cs, d, r⟩ := x; exact ⟨cs, d, r.mono e⟩
  | dictS kvs => obtain ⟨cs, d, r⟩ := x; exact ⟨cs, d, r.mono e⟩
  | dictT kvs => obtain ⟨cs, d, r⟩ := x; exact ⟨cs, d, r.mono e hT⟩
  | inst C d => obtain ⟨dx, e', r⟩ := x; exact ⟨dx, pre_get e e', r⟩
  | attrs kvs => obtain ⟨es, n, e', r⟩ := x; exact ⟨es, n, e', r.mono e⟩
  | range m k => exact x

theorem OR.lt {ρ H h o a} (x : OR prog w ρ H h o a) : ∃ ob, h.get? a = some ob := by
  cases o with
  | list xs => obtain ⟨_, _, e, _⟩ := x; exact ⟨_, e⟩
  | tuple xs => obtain ⟨_, _, e, _⟩ := x; exact ⟨_, e⟩
  | dictI kvs => obtain ⟨_, ⟨_, _, _, e, _⟩, _⟩ := x; exact ⟨_, e⟩
  | dictS kvs => obtain ⟨_, ⟨_, _, _, e, _⟩, _⟩ := x; exact ⟨_, e⟩
  | dictT kvs => obtain ⟨_, ⟨_, _, _, e, _⟩, _⟩ := x; exact ⟨_, e⟩
  | inst C d => obtain ⟨_, _, e⟩ := x; exact ⟨_, e⟩
  | attrs kvs => obtain ⟨_, _, e, _⟩ := x; exact ⟨_, e⟩
  | range m k => obtain ⟨_, _, _, e, _⟩ := x; exact ⟨_, e⟩
theorem Inv.lt {ρ H h} (I : Inv prog w g ρ H h) : ∀ a ∈ ρ, ∃ ob, h.get? a = some ob := by
  intro a ha
  obtain ⟨i, hi, rfl⟩ := List.mem_iff_getElem.mp ha
  have : i < H.length := by rw [← I.len]; exact hi
  exact (I.objs i H[i] _ (List.getElem?_eq_getElem this) (List.getElem?_eq_getElem hi)).lt
theorem Inv.ltsz {ρ H h} (I : Inv prog w g ρ H h) {a : Addr} (ha : a ∈ ρ) : a < h.objs.size := by obtain ⟨_, e⟩ := I.lt a ha; exact Heap.lt_size e

/-- the heap grew or changed at garbage alone -/
theorem Inv.quiet {ρ H} {h h' : HX} (I : Inv prog w g ρ H h) (hg : ∀ b o, g.get? b = some o → h.get? b = some o → h'.get? b = some o) (hρ : ∀ a ∈ ρ, ∀ o, h.get? a = some o → h'.get? a = some o) (ho : h'.os = h.os := by rfl) (hgs : h'.gens = h.gens := by rfl) : Inv prog w g ρ H h' :=
  ⟨fun b o e => hg b o e (I.stays b o e), I.apart, I.len, I.nodup, fun i o a e e' => (I.objs i o a e e').keep fun b ob hb e2 => hρ b (by
    rcases hb with rfl | hb
    · exact List.mem_of_getElem? e'
    · exact hb) ob e2, ho.trans I.os, hgs.trans I.gens⟩
theorem Inv.all {ρ H} {h h' : HX} (I : Inv prog w g ρ H h) (hk : ∀ b o, h.get? b = some o → h'.get? b = some o) (ho : h'.os = h.os := by rfl) (hgs : h'.gens = h.gens := by rfl) : Inv prog w g ρ H h' :=
  I.quiet (fun b o _ e => hk b o e) (fun a _ o e => hk a o e) ho hgs

theorem tup_append (H : Hp) (l : Hp) : Tup H (H ++ l) := fun i xs e => by
  have hi : i < H.length := (List.getElem?_eq_some_iff.mp e).1
  rw [List.getElem?_append_left hi]; exact e
/-- a new object taken in -/
theorem Inv.push {ρ H h} (I : Inv prog w g ρ H h) {a : Addr} {o : O} (ha : a ∉ ρ) (hg : g.get? a = none) (ho : OR prog w (ρ ++ [a]) (H ++ [o]) h.toHeap o a) : Inv prog w g (ρ ++ [a]) (H ++ [o]) h := by
  refine ⟨I.stays, fun b hb => ?_, by simp [I.len], ?_, fun i o' b e e' => ?_, I.os, I.gens⟩
  · rcases List.mem_append.mp hb with h1 | h1
    · exact I.apart b h1
    · rw [List.mem_singleton.mp h1]; exact hg
  · rw [List.nodup_append]
    refine ⟨I.nodup, by simp, ?_⟩
    intro x hx y hy
    rw [List.mem_singleton.mp hy]
    intro e; exact ha (e ▸ hx)
  · by_cases hi : i < H.length
    · rw [List.getElem?_append_left hi] at e
      rw [List.getElem?_append_left (by rw [I.len]; exact hi)] at e'
      exact (I.objs i o' b e e').mono rfl (tup_append H [o])
    · have hi' : i = H.length := by
        have := (List.getElem?_eq_some_iff.mp e).1
        simp at this; lia
      subst hi'
      simp at e
      rw [← I.len] at e'
      simp at e'
      subst e; subst e'
      exact ho
theorem set_get {H : Hp} {i : Nat} {o : O} {j : Nat} (hi : i < H.length) : (H.set i o)[j]? = if i = j then some o else H[j]? := by
  rw [List.getElem?_set]
  by_cases e : i = j
  · subst e; simp [hi]
  · simp [e]
/-- one object changed -/
theorem Inv.set {ρ H} {h h' : HX} (I : Inv prog w g ρ H h) {i : Nat} {a : Addr} {o o' : O} (hi : H[i]? = some o) (ha : ρ[i]? = some a) (hs : Heap.SameBut a h.toHeap h'.toHeap) (hT : Tup H (H.set i o'))
    (ho : OR prog w ρ (H.set i o') h'.toHeap o' a) (hkt : ∀ xs, o ≠ O.tuple xs) (hos : h'.os = h.os := by rfl) (hgs : h'.gens = h.gens := by rfl) : Inv prog w g ρ (H.set i o') h' := by
  have hlt : i < H.length := (List.getElem?_eq_some_iff.mp hi).1
  have hga : g.get? a = none := I.apart a (List.mem_of_getElem? ha)
  have hne : ∀ b ob, g.get? b = some ob → b ≠ a := fun b ob e q => by rw [q, hga] at e; cases e
  refine ⟨fun b ob e => (hs.2 b (hne b ob e)).trans (I.stays b ob e), I.apart, by simp [I.len], I.nodup, fun j oj b e e' => ?_, hos.trans I.os, hgs.trans I.gens⟩
  rw [set_get hlt] at e
  by_cases q : i = j
  · subst q
    rw [if_pos rfl] at e
    cases e
    rw [ha] at e'; cases e'
    exact ho
  · rw [if_neg q] at e
    have hb : b ≠ a := fun z => by
      subst z
      have h1 := (List.getElem?_eq_some_iff.mp ha)
      have h2 := (List.getElem?_eq_some_iff.mp e')
      exact q ((List.getElem?_inj h1.1 I.nodup).mp (ha.trans e'.symm))
    have x := (I.objs j oj b e e').mono (ρ' := ρ) (t := []) (H' := H.set i o') (by simp) hT
    cases oj with
    | dictT kvs =>
      obtain ⟨cs, ⟨o1, es, ep, e1, c, d, l, is, n⟩, r⟩ := x
      refine ⟨cs, ⟨o1, es, ep, (hs.2 b hb).trans e1, c, d, l, ?_, n⟩, r⟩
      clear l n e
      induction r with
      | nil => intro x hx; cases hx
      | @cons k v a' c' vs cs j' hv hj hJ _ ih =>
        intro x hx
        rcases List.mem_cons.mp hx with rfl | hx
        · obtain ⟨o2, items, n2, h1, h2⟩ := is _ (List.mem_cons_self ..)
          refine ⟨o2, items, n2, (hs.2 _ ?_).trans h1, h2⟩
          rintro rfl
          have : i = j' := (List.getElem?_inj (List.getElem?_eq_some_iff.mp ha).1 I.nodup).mp (ha.trans hj.symm)
          subst this
          rw [set_get hlt, if_pos rfl] at hJ
          have hJ' := Option.some.inj hJ
          -- the changed object would be a tuple behind: its class says no
          subst hJ'
          obtain ⟨cs', n', e3, _⟩ := ho
          have hT1 : H[i]? = some o := hi
          cases o with
          | tuple xs => exact hkt xs rfl
          | list xs => obtain ⟨_, _, e4, _⟩ := I.objs i _ _ hi ha; rw [e4] at h1; cases h1; exact absurd (Value.type.inj h2.1) (by decide)
          | dictI kvs => obtain ⟨_, ⟨_, _, _, e4, c4, _⟩, _⟩ := I.objs i _ _ hi ha; rw [e4] at h1; cases h1; rw [c4.1] at h2; exact absurd (Value.type.inj h2.1) (by decide)
          | dictS kvs => obtain ⟨_, ⟨_, _, _, e4, c4, _⟩, _⟩ := I.objs i _ _ hi ha; rw [e4] at h1; cases h1; rw [c4.1] at h2; exact absurd (Value.type.inj h2.1) (by decide)
          | dictT kvs => obtain ⟨_, ⟨_, _, _, e4, c4, _⟩, _⟩ := I.objs i _ _ hi ha; rw [e4] at h1; cases h1; rw [c4.1] at h2; exact absurd (Value.type.inj h2.1) (by decide)
          | inst C d => obtain ⟨_, _, e4⟩ := I.objs i _ _ hi ha; rw [e4] at h1; cases h1; cases h2.1
          | attrs kvs => obtain ⟨_, _, e4, _⟩ := I.objs i _ _ hi ha; rw [e4] at h1; cases h1; exact absurd (Value.type.inj h2.1) (by decide)
          | range m k => obtain ⟨_, _, _, e4, _⟩ := I.objs i _ _ hi ha; rw [e4] at h1; cases h1; exact absurd (Value.type.inj h2.1) (by decide)
        · exact ih (fun y hy => is y (List.mem_cons_of_mem _ hy)) x hx
    | list xs => obtain ⟨cs, n, e, r⟩ := x; exact ⟨cs, n, (hs.2 b hb).trans e, r⟩
    | tuple xs => obtain ⟨cs, n, e, r⟩ := x; exact ⟨cs, n, (hs.2 b hb).trans e, r⟩
    | dictI kvs => obtain ⟨cs, ⟨o, es, ep, e, d⟩, r⟩ := x; exact ⟨cs, ⟨o, es, ep, (hs.2 b hb).trans e, d⟩, r⟩
    | dictS kvs => obtain ⟨cs, ⟨o, es, ep, e, d⟩, r⟩ := x; exact ⟨cs, ⟨o, es, ep, (hs.2 b hb).trans e, d⟩, r⟩
    | inst C d => obtain ⟨dx, e, r⟩ := x; exact ⟨dx, e, (hs.2 b hb).trans r⟩
    | attrs kvs => obtain ⟨es, n, e, r⟩ := x; exact ⟨es, n, (hs.2 b hb).trans e, r⟩
    | range m k => obtain ⟨t, u, v, r, z⟩ := x; exact ⟨t, u, v, (hs.2 b hb).trans r, z⟩
theorem tup_set {H : Hp} {i : Nat} {o o' : O} (hi : H[i]? = some o) (h : ∀ xs, o ≠ O.tuple xs) : Tup H (H.set i o') := fun j xs e => by
  have hlt : i < H.length := (List.getElem?_eq_some_iff.mp hi).1
  rw [set_get hlt, if_neg ?_]
  · exact e
  · rintro rfl; rw [hi] at e; cases e; exact h xs rfl

/-! ## frames -/
theorem ER.step {q sc env m ρ ρ' h h'} (R : ER g sc env m ρ h) (S : Step nobody q ρ ρ' h h') : ER g sc env m ρ' h' := by
  obtain ⟨t, e, ht⟩ := S.pre
  obtain ⟨mL, hn, hv⟩ := R.ns
  have keep : ∀ a, a ∉ ρ → ∀ o, h.get? a = some o → h'.get? a = some o := fun a n o q => S.pres a o q n (fun z => z)
  have nin : ∀ a, a ∉ ρ → (∃ o, h.get? a = some o) → a ∉ ρ' := fun a n ⟨o, e⟩ q => n (S.mem q e)
  have nsl : ∃ o, h.get? env.locals = some o := Option.isSome_iff_exists.mp (by obtain ⟨_, _, _, e, _⟩ := hn; rw [e]; rfl)
  refine ⟨R.kind, R.glob, R.blt, R.cls, R.cel, R.lo, nin _ R.apart nsl, ⟨mL, hn.at' (keep _ R.apart), fun x v hk hm => ?_⟩, fun x hx => ?_, R.inj⟩
  · obtain ⟨c, a, b⟩ := hv x v hk hm; exact ⟨c, a, b.mono e⟩
  · obtain ⟨c, a, b, n, l, ov, ho, hm⟩ := R.cells x hx
    refine ⟨c, a, b, nin _ n (by obtain ⟨o, e, _⟩ := ho; exact ⟨o, e⟩), l, ov, ?_, fun v hv => ?_⟩
    · obtain ⟨o, p, q⟩ := ho; exact ⟨o, keep c n o p, q⟩
    · obtain ⟨cv, p, q⟩ := hm v hv; exact ⟨cv, p, q.mono e⟩
theorem ER.same {sc env m m' ρ h} (R : ER g sc env m ρ h) (hm : ∀ x, m'.lookup x = m.lookup x) : ER g sc env m' ρ h := by
  obtain ⟨mL, hn, hv⟩ := R.ns
  refine ⟨R.kind, R.glob, R.blt, R.cls, R.cel, R.lo, R.apart, ⟨mL, hn, fun x v hk e => hv x v hk (by rw [← hm]; exact e)⟩, fun x hx => ?_, R.inj⟩
  obtain ⟨c, a, b, n, l, ov, ho, h2⟩ := R.cells x hx
  exact ⟨c, a, b, n, l, ov, ho, fun v e => h2 v (by rw [← hm]; exact e)⟩
end
end Mine
end
section
open PySem PySem.W PyProof.Rows
set_option maxRecDepth 100000
namespace Mine

noncomputable def Ok (d : Nat) (A : Around) : Prop := A.handled = none ∧ A.depth + 2 * d + 2 < recursionLimit ∧ A.units + 16 * d + 16 < cLine ∧ A.guards = some []


/-- what the head says of the text's part -/
structure TabsOk (T : Tabs) (K : Frag) : Prop where
  glob : ∀ x v, T.glob.lookup x = some v → nsIn K mainGlobals x = some (some v)
  blt : ∀ x v, T.blt.lookup x = some v → nsIn K mainGlobals x = some none ∧ bootBuiltins x = some v ∧ x ≠ "__name__"
  bltk : ∀ x v, T.blt.lookup x = some v → ∀ a, v ≠ .ref a
  globk : ∀ x v, T.glob.lookup x = some v → ∃ a, v = .ref a ∧ keepIn K (.ref a) = true
  fn : ∀ a fd, T.fn a = some fd → ∃ o, K.lookup a = some o ∧ o.cls = .type "function" ∧ o.data = .func fd ∧ fd.closure = [] ∧ fd.globals = mainGlobals ∧ fd.builtins = builtinsNs ∧ fd.body = .stmts (bodyOf fd) ∧
    fd.scope.kind = .function ∧ fd.scope.isCoroutine = false ∧ fd.scope.isGenerator = false ∧
    (∀ vals : List Value, vals.length = (argNames fd).length → bindArgs fd ⟨vals, []⟩ = pure ((argNames fd).zip vals)) ∧
    (∀ x ∈ argNames fd, ∀ n, fd.scope.names.lookup x = some .local ∨ (fd.scope.names.lookup x = some .cell ∧ ((cellsFrom n fd.scope.names []).lookup x).isSome = true)) ∧
    (∀ x n, fd.scope.names.lookup x = some .cell → ((cellsFrom n fd.scope.names []).lookup x).isSome = true) ∧ (∀ x, fd.scope.names.lookup x ≠ some .free)
  init : ∀ C fi, T.init.lookup C = some fi → makesIn K C = true ∧ findIn K (.ref C) "__init__" = some (some (.ref fi)) ∧ typeIn K (.ref fi) = some (.type "function") ∧ keepIn K (.ref C) = true
  meth : ∀ t ∈ T.meth, plainGet K t.1 t.2.1 = true ∧ findIn K (.ref t.1) t.2.1 = some (some (.ref t.2.2)) ∧ isFn K (.ref t.2.2) = true ∧ keepIn K (.ref t.2.2) = true
  attr : ∀ t ∈ T.attr, plainGet K t.1 t.2 = true ∧ hasDictIn K t.1 = true ∧ findIn K (.ref t.1) t.2 = some none ∧
    findIn K (.ref t.1) "__setattr__" = some (some (.builtin "object.__setattr__")) ∧ plainOver K t.1 = true ∧ takerIn K t.1 t.2 = some none

structure Wd (w : World) (K : Frag) (g : HX) (T : Tabs) : Prop where
  X : K.In g.toHeap
  code : ∀ a fd, T.fn a = some fd → g.CodeRec fd.code fd.qualname
  top : ∃ p loose mg mb, TopRead p loose mg mb g.toHeap
  last : ∃ a o, g.get? a = some o ∧ g.objs.size = a + 1
  ok : TabsOk T K
  ro : ∀ c l, T.ro c = some l → ∃ a cs, c = .ref a ∧ g.toHeap.IsList a cs.toArray ∧ ∀ ρ, VRs ρ (l.map V.int) cs

section
variable (prog : Program) (w : World) (g : HX)
inductive EPost (qt : Bool) (ρ : List Addr) (h : Heap) (Q : V → Hp → Prop) (c : Value) (s' : Shared) : Prop
  | mk (v : V) (H' : Hp) (ρ' : List Addr) (q : Q v H') (r : VR ρ' v c) (i : Inv prog w g ρ' H' (hxs s')) (t : Step nobody qt ρ ρ' h s'.heap) : EPost qt ρ h Q c s'
inductive BPost (qt : Bool) (ρ : List Addr) (h : Heap) (Q : Bool → Hp → Prop) (c : Bool) (s' : Shared) : Prop
  | mk (H' : Hp) (ρ' : List Addr) (q : Q c H') (i : Inv prog w g ρ' H' (hxs s')) (t : Step nobody qt ρ ρ' h s'.heap) : BPost qt ρ h Q c s'
inductive LPost (qt : Bool) (ρ : List Addr) (h : Heap) (Q : List V → Hp → Prop) (c : List Value) (s' : Shared) : Prop
  | mk (v : List V) (H' : Hp) (ρ' : List Addr) (q : Q v H') (r : VRs ρ' v c) (i : Inv prog w g ρ' H' (hxs s')) (t : Step nobody qt ρ ρ' h s'.heap) : LPost qt ρ h Q c s'
inductive UPost (qt : Bool) (ρ : List Addr) (h : Heap) (Q : Hp → Prop) (s' : Shared) : Prop
  | mk (H' : Hp) (ρ' : List Addr) (q : Q H') (i : Inv prog w g ρ' H' (hxs s')) (t : Step nobody qt ρ ρ' h s'.heap) : UPost qt ρ h Q s'
end

section
variable {prog : Program} {w : World} {g : HX} {qt : Bool} {ρ ρ₁ : List Addr} {h h₁ : Heap}
theorem EPost.after {Q c s'} (S : Step nobody qt ρ ρ₁ h h₁) (x : EPost prog w g qt ρ₁ h₁ Q c s') : EPost prog w g qt ρ h Q c s' := by obtain ⟨v, H', ρ', q, r, i, t⟩ := x; exact ⟨v, H', ρ', q, r, i, S.trans t⟩
theorem BPost.after {Q c s'} (S : Step nobody qt ρ ρ₁ h h₁) (x : BPost prog w g qt ρ₁ h₁ Q c s') : BPost prog w g qt ρ h Q c s' := by obtain ⟨H', ρ', q, i, t⟩ := x; exact ⟨H', ρ', q, i, S.trans t⟩
end

section
variable {prog : Program} {w : World} {g : HX} {qt : Bool} {K : Frag} {T : Tabs} {A : Around} {E : Value → Shared → Prop} {s : Shared} {ρ : List Addr} {H : Hp}

/-! ## arithmetic, comparisons -/
theorem natAbs_of_small {x : Int} (h : smallI x) : x.natAbs < 2 ^ 64 := by
  have h1 := h.1; have h2 := h.2
  simp only [show (2 : Int) ^ 40 = 1099511627776 from by decide] at h1 h2
  lia
theorem bin_int {op : Operator} {x y : Int} {t u : Nat} {Q : V → Hp → Prop} (I : Inv prog w g ρ H (hxs s)) (h : binV op (.int x) (.int y) H Q) : wpAny (model prog w) A (binaryOp op (.int x t) (.int y u)) (EPost prog w g qt ρ s.heap Q) E s := by
  have fin : ∀ z : Int, Q (.int z) H → ∀ k, EPost prog w g qt ρ s.heap Q (.int z k) { s with toks := s.toks + 1 } := fun z q k => ⟨_, _, _, q, ⟨k, rfl⟩, I, .refl⟩
  cases op <;> simp only [binV] at h
  case Add => exact add_int (fin _ h _)
  case Sub => exact sub_int (fin _ h _)
  case Mult =>
    obtain ⟨a, b, q⟩ := h
    refine mul_int (fin _ q _) (IntMulOk.of_left ?_)
    have := natAbs_of_small a
    exact intBits_le this
  case Mod => obtain ⟨a, q⟩ := h; exact mod_int (by lia) (fin _ q _)
  case FloorDiv => obtain ⟨a, c, q⟩ := h; exact floordiv_int (by lia) (fin _ q _) (.inl (PyProof.noPylong_small (by lia)))
  case Pow => obtain ⟨rfl, a, b, q⟩ := h; exact pow_int_small a (by lia) (by decide) (fin _ q _)
  case LShift => obtain ⟨c, a, b, q⟩ := h; exact lshift_int_small a (by lia) (natAbs_of_small c) (fin _ q _)
  case BitAnd => exact and_int (fin _ h _)
  case BitOr => exact or_int (fin _ h _)
  case BitXor => exact xor_int (fin _ h _)

theorem cmp_int {op : CmpOp} {x y : Int} {t u : Nat} {Q : Bool → Hp → Prop} (I : Inv prog w g ρ H (hxs s)) (h : cmpV op (.int x) (.int y) H fun c => Q c H) :
    wpAny (model prog w) A (compareOp op (.int x t) (.int y u)) (fun v s' => ∃ c, v = .bool c ∧ BPost prog w g qt ρ s.heap Q c s') E s := by
  have fin : ∀ c, Q c H → ∃ c', Value.bool c = .bool c' ∧ BPost prog w g qt ρ s.heap Q c' s := fun c q => ⟨c, rfl, H, ρ, q, I, .refl⟩
  cases op <;> simp only [cmpV] at h
  case Eq => exact eq_int (fin _ h)
  case NotEq => exact ne_int (fin _ h)
  case Lt => exact lt_int (fin _ h)
  case LtE => exact le_int (fin _ h)
  case Gt => exact gt_int (fin _ h)
  case In => simp [hasOf, onO] at h
  case NotIn => simp [hasOf, onO] at h
theorem cmp_str {op : CmpOp} {x y : Str} {t u : Nat} {Q : Bool → Hp → Prop} (I : Inv prog w g ρ H (hxs s)) (h : cmpV op (.str x) (.str y) H fun c => Q c H) :
    wpAny (model prog w) A (compareOp op (.str x t) (.str y u)) (fun v s' => ∃ c, v = .bool c ∧ BPost prog w g qt ρ s.heap Q c s') E s := by
  have fin : ∀ c, Q c H → ∃ c', Value.bool c = .bool c' ∧ BPost prog w g qt ρ s.heap Q c' s := fun c q => ⟨c, rfl, H, ρ, q, I, .refl⟩
  cases op <;> simp only [cmpV] at h
  case Eq => exact PyProof.Rows.eq_str (fin _ h)
  case NotEq => exact PyProof.Rows.ne_str (fin _ h)
  case In => simp [hasOf, onO] at h
  case NotIn => simp [hasOf, onO] at h

theorem ints_of {ρ : List Addr} {xs : List V} {l : List Int} {cs : List Value} (h : ints? xs = some l) (hr : VRs ρ xs cs) : ItemsAre (intKind prog w) l cs ∧ xs = l.map V.int := by
  induction xs generalizing l cs with
  | nil => cases hr; cases h; exact ⟨.nil, rfl⟩
  | cons v r ih =>
    cases hr with | cons hv hr =>
    cases v with
    | int i =>
      rw [ints?] at h
      cases hl : ints? r with
      | none => rw [hl] at h; cases h
      | some l' =>
        rw [hl] at h; cases h
        obtain ⟨a, b⟩ := ih hl hr
        obtain ⟨t, rfl⟩ := hv
        exact ⟨.cons (intKind_is prog w _ t) a, by rw [b]; rfl⟩
    | _ => cases h
/-- a key that is a tuple -/
theorem tupKey_of {k : V} {c : Value} {l : List Int} (I : Inv prog w g ρ H (hxs s)) (hk : tupKey H k = some l) (r : VR ρ k c) : ∃ a j, c = .ref a ∧ ρ[j]? = some a ∧ k = .ref j ∧ H[j]? = some (O.tuple (l.map V.int)) ∧ (tupleKind (intKind prog w)).is s.heap l a := by
  unfold tupKey at hk
  split at hk
  · rename_i j
    obtain ⟨a, ha, rfl⟩ := r
    split at hk
    · rename_i xs hx
      obtain ⟨cs, n, e, q⟩ := I.objs j _ a hx ha
      obtain ⟨z1, z2⟩ := ints_of (prog := prog) (w := w) hk q
      exact ⟨a, j, rfl, ha, rfl, by rw [hx, z2], _, _, n, e, rfl, rfl, z1⟩
    · cases hk
  · cases hk
theorem KRT.look {ρ} {H : Hp} {vs cs} (x : KRT ρ H vs cs) (k : List Int) : match Mine.look k vs with | some v => ∃ a c, atKey cs k = some (a, c) ∧ VR ρ v c | .none => atKey cs k = .none := by
  induction x with
  | nil => rfl
  | @cons k' v a c vs cs j hv hj hJ _ ih =>
    unfold Mine.look
    by_cases e : k' = k
    · subst e; simp only [if_true]; exact ⟨a, c, by simp [atKey], hv⟩
    · simp only [if_neg e]
      have : atKey ((k', a, c) :: cs) k = atKey cs k := by simp [atKey, e]
      rw [this]; exact ih
theorem low_ne {ρ : List Addr} {H : Hp} {h : HX} (I : Inv prog w g ρ H h) (hm : ∃ o, g.get? sysModules = some o) {a : Addr} (ha : a ∈ ρ) : (a == sysModules) = false := by
  obtain ⟨o, e⟩ := hm
  refine beq_false_of_ne fun q => ?_
  have := I.apart a ha
  rw [q, e] at this; cases this

theorem cmp_has {op : CmpOp} {a : V} {b : V} {ca cb : Value} {Q : Bool → Hp → Prop} (hop : op = .In ∨ op = .NotIn) (hm : ∃ o, g.get? sysModules = some o) (hu : A.units + 1 < cLine) (I : Inv prog w g ρ H (hxs s)) (ra : VR ρ a ca) (rb : VR ρ b cb)
    (h : cmpV op a b H fun c => Q c H) : wpAny (model prog w) A (compareOp op ca cb) (fun v s' => ∃ c, v = .bool c ∧ BPost prog w g qt ρ s.heap Q c s') E s := by
  have key : ∃ c, hasOf H b a = some c ∧ Q (if op = .In then c else !c) H := by
    rcases hop with rfl | rfl <;> simp only [cmpV] at h <;> cases hh : hasOf H b a with
    | none => rw [hh] at h; exact h.elim
    | some c => rw [hh] at h; exact ⟨c, rfl, h⟩
  obtain ⟨c, hc, q⟩ := key
  have fin : ∀ z k, z = (if op = .In then c else !c) → ∃ c', Value.bool z = .bool c' ∧ BPost prog w g qt ρ s.heap Q c' { s with toks := s.toks + k } := fun z k e => ⟨z, rfl, H, ρ, e ▸ q, I, .refl⟩
  unfold hasOf at hc
  split at hc
  · rename_i i
    obtain ⟨ad, had, rfl⟩ := rb
    have hmem := List.mem_of_getElem? had
    split at hc
    · rename_i kvs hk
      obtain ⟨cs, hd, hr⟩ := I.objs i _ ad hk had
      split at hc
      · rename_i n
        obtain ⟨t, rfl⟩ := ra
        cases hc
        have e : (valueAt cs n).isSome = (Mine.look n kvs).isSome := by
          have := hr.look n
          cases hl : Mine.look n kvs with
          | none => rw [hl] at this; simp only at this; rw [this]; rfl
          | some v => rw [hl] at this; obtain ⟨c, e, _⟩ := this; rw [e]; rfl
        rcases hop with rfl | rfl
        · exact wpAny_in_of (intKind_is prog w n t) (low_ne I hm hmem) hd.mapOf (fin _ 1 (by rw [e]; simp))
        · exact wpAny_notIn_of (intKind_is prog w n t) (low_ne I hm hmem) hd.mapOf (fin _ 1 (by rw [e]; simp))
      · cases hc
    · rename_i kvs hk
      obtain ⟨cs, hd, hr⟩ := I.objs i _ ad hk had
      split at hc
      · rename_i l hl
        cases hc
        obtain ⟨at_, j, rfl, _, _, _, hkey⟩ := tupKey_of (prog := prog) (w := w) I hl ra
        have e : (atKey cs l).isSome = (Mine.look l kvs).isSome := by
          have := hr.look l
          cases hl : Mine.look l kvs with
          | none => rw [hl] at this; simp only at this; rw [this]; rfl
          | some v => rw [hl] at this; obtain ⟨a, c, e, _⟩ := this; rw [e]; rfl
        have base : ∀ {Q' : Value → Shared → Prop}, Q' (.bool (atKey cs l).isSome) { s with toks := s.toks + (tupleKind (intKind prog w)).draws l } → wpAny (model prog w) A (compareOp .In (.ref at_) (.ref ad)) Q' E s :=
          fun hq => wpAny_in_heap (knd := tupleKind (intKind prog w)) (tupleKind_room_in1 hu) hkey (low_ne I hm hmem) hd hq
        rcases hop with rfl | rfl
        · exact base (fin _ _ (by rw [e]; simp))
        · have z := base (Q' := fun v s' => ∃ c', v = .bool c' ∧ BPost prog w g qt ρ s.heap Q (!c') s') ⟨_, rfl, H, ρ, by rw [e]; simpa using q, I, .refl⟩
          refine fun Γ p hΓ => ?_
          have z' := z Γ p hΓ
          show Sem.wp _ _ (contains (.ref ad) (.ref at_) >>= fun c => pure (Value.bool (!c))) _ _ _ _
          have z'' : Sem.wp (model prog w) Γ (contains (.ref ad) (.ref at_) >>= fun c => pure (Value.bool c)) _ _ p s := z'
          rw [Sem.wp_bind'] at z'' ⊢
          refine Sem.wp_mono _ Γ _ (fun c p' s' h' => ?_) (fun _ _ _ h' => h') p s z''
          obtain ⟨c', e1, e2⟩ := h'
          cases e1
          exact ⟨_, rfl, e2⟩
      · cases hc
    · cases hc
  · cases hc
end
end Mine
end
section
open PySem PySem.W PyProof.Rows
set_option maxRecDepth 100000
namespace Mine
section
variable {prog : Program} {w : World} {g : HX} {qt : Bool} {K : Frag} {T : Tabs} {A : Around} {E : Value → Shared → Prop} {s : Shared} {ρ : List Addr} {H : Hp}

/-! ## reading by an index or a key -/
theorem subs_ops (slice : PySem.Expr) (o i : Value) : ∃ ops, subscripted slice false o i = operate ops (getItem o i) := by
  cases slice with
  | Slice l u st p => cases st <;> exact ⟨_, rfl⟩
  | _ => exact ⟨_, rfl⟩
theorem tail_get {value slice : PySem.Expr} {o i : Value} {T id : String} {Q : Value → Shared → Prop} (hT : s.TypeIs o T) (hl : typeLookup (.type T) "__getitem__" = pure (some (.builtin id)))
    (hg : wpAny (model prog w) A (getItem o i) Q E s) : wpAny (model prog w) A (subscriptTail value slice o i) Q E s :=
  by obtain ⟨_, e⟩ := subs_ops slice o i; exact tail_any hT hl hg e
theorem isList_of {h : Heap} {a : Addr} {cs : List Value} {n : Nat} (e : h.get? a = some (sqObj "list" cs n)) : h.IsList a cs.toArray := ⟨_, e, rfl, n, rfl⟩
theorem isTup_of {h : Heap} {a : Addr} {cs : List Value} {n : Nat} (e : h.get? a = some (sqObj "tuple" cs n)) : IsTup h a cs.toArray := ⟨_, e, rfl, n, rfl⟩
theorem getLast_get {α : Type} {l : List α} {x : α} (h : l.getLast? = some x) : 0 < l.length ∧ l[l.length - 1]? = some x := by
  rw [List.getLast?_eq_getElem?] at h
  have := (List.getElem?_eq_some_iff.mp h).1
  exact ⟨by (first | exact Nat.lt_of_le_of_lt (Nat.le_add_left ..) (by assumption) | lia), h⟩

theorem neg1 {n : Nat} (h : 0 < n) : (-1 + (n : Int)).toNat = n - 1 := by
  cases n with
  | zero => cases h
  | succ n => rw [Int.natCast_succ, Int.add_comm (n : Int) 1, Int.neg_add_cancel_left]; rfl
theorem sub_sound {value slice : PySem.Expr} {o k : V} {co ck : Value} {Q : V → Hp → Prop} (hu : A.units + 1 < cLine) (I : Inv prog w g ρ H (hxs s)) (ro : VR ρ o co) (rk : VR ρ k ck) (h : gSub H o k Q) :
    wpAny (model prog w) A (subscriptTail value slice co ck) (EPost prog w g qt ρ s.heap Q) E s := by
  unfold gSub at h
  cases hs : subOf H o k with
  | none => rw [hs] at h; exact h.elim
  | some r =>
  rw [hs] at h
  simp only [onO] at h
  have fin : ∀ c n, VR ρ r c → EPost prog w g qt ρ s.heap Q c { s with toks := s.toks + n } := fun c n z => ⟨r, H, ρ, h, z, I, .refl⟩
  unfold subOf at hs
  split at hs
  · rename_i i
    obtain ⟨a, ha, rfl⟩ := ro
    split at hs
    · rename_i xs hx
      obtain ⟨cs, n, e, q⟩ := I.objs i _ a hx ha
      have hl := isList_of e
      split at hs
      · rename_i n'
        obtain ⟨t, rfl⟩ := rk
        unfold itemOf at hs
        split at hs
        · rename_i h0
          split at hs
          · rename_i h1
            obtain ⟨c, hc, hr⟩ := q.get hs
            exact tail_get hl.typeIs slot_list_getitem.lookup (wpAny_getItem_list hl h0 (by simp only [show (2 : Int) ^ 40 = 1099511627776 from by decide] at h1; lia) (by simpa using hc) (fin c 0 hr))
          · cases hs
        · split at hs
          · rename_i h0 h1
            subst h1
            obtain ⟨hp, hx'⟩ := getLast_get hs
            obtain ⟨c, hc, hr⟩ := q.get hx'
            have hlen := q.length
            refine tail_get hl.typeIs slot_list_getitem.lookup (wpAny_getItem_list_neg hl (by (first | decide | lia)) (by simp only [List.size_toArray]; lia) (by decide) (x := c) ?_ (fin c 0 hr))
            simp only [List.size_toArray]
            rw [neg1 (hlen ▸ hp), ← hlen]
            simpa using hc
          · cases hs
      · cases hs
    · rename_i xs hx
      obtain ⟨cs, n, e, q⟩ := I.objs i _ a hx ha
      have hl := isTup_of e
      split at hs
      · rename_i n'
        obtain ⟨t, rfl⟩ := rk
        split at hs
        · rename_i h0
          unfold itemOf at hs
          rw [if_pos h0] at hs
          split at hs
          · rename_i h1
            obtain ⟨c, hc, hr⟩ := q.get hs
            have h1' : n' < 1099511627776 := by simpa only [show (2 : Int) ^ 40 = 1099511627776 from by decide] using h1
            have hlt := (List.getElem?_eq_some_iff.mp hc).1
            have hT : s.TypeIs (.ref a) "tuple" := ⟨_, e, rfl⟩
            refine tail_get hT slot_tuple_getitem.lookup (PyProof.Rows.getItem_tuple hl (by lia) (by lia) (j := n'.toNat) ?_ (by simpa using hc) (fin c 0 hr))
            exact PyProof.Rows.seqIndex_at h0 (by simp only [List.size_toArray]; lia)
          · cases hs
        · cases hs
      · cases hs
    · rename_i kvs hx
      obtain ⟨cs, hd, q⟩ := I.objs i _ a hx ha
      split at hs
      · rename_i n'
        obtain ⟨t, rfl⟩ := rk
        have := q.look n'
        rw [hs] at this
        obtain ⟨c, e1, e2⟩ := this
        exact tail_get hd.typeIs slot_dict_getitem.lookup (wpAny_getItem_of (intKind_is prog w n' t) hd.mapOf e1 (fin c 1 e2))
      · cases hs
    · rename_i kvs hx
      obtain ⟨cs, hd, q⟩ := I.objs i _ a hx ha
      split at hs
      · rename_i n'
        obtain ⟨t, rfl⟩ := rk
        have := q.look n'
        rw [hs] at this
        obtain ⟨c, e1, e2⟩ := this
        exact tail_get hd.typeIs slot_dict_getitem.lookup (wpAny_getItem_of (strKind_is prog w n' t) hd.mapOf e1 (fin c 1 e2))
      · cases hs
    · rename_i kvs hx
      obtain ⟨cs, hd, q⟩ := I.objs i _ a hx ha
      split at hs
      · rename_i l hl
        obtain ⟨at_, j, rfl, _, _, _, hkey⟩ := tupKey_of (prog := prog) (w := w) I hl rk
        have := q.look l
        rw [hs] at this
        obtain ⟨b, c, e1, e2⟩ := this
        exact tail_get hd.typeIs slot_dict_getitem.lookup (wpAny_getItem_heap (knd := tupleKind (intKind prog w)) (tupleKind_room_in1 hu) hkey hd e1 (fin c _ e2))
      · cases hs
    · cases hs
  · cases hs

/-! ## new objects -/
theorem fresh_not {ρ : List Addr} {H : Hp} {h : HX} (I : Inv prog w g ρ H h) {a : Addr} (ha : h.get? a = none) : a ∉ ρ := fun q => by obtain ⟨o, e⟩ := I.lt a q; rw [ha] at e; cases e
theorem none_ge {h : Heap} {a : Addr} (ha : h.objs.size ≤ a) : h.get? a = none := by
  cases e : h.get? a with
  | none => rfl
  | some o => exact absurd (Heap.lt_size e) (Nat.not_lt.mpr ha)
theorem Inv.gfree {ρ : List Addr} {H : Hp} {h : HX} (I : Inv prog w g ρ H h) {a : Addr} (ha : h.get? a = none) : g.get? a = none := by
  cases e : g.get? a with
  | none => rfl
  | some o => rw [I.stays a o e] at ha; cases ha
/-- an object in the heap, made since h, is taken in -/
theorem EPost.new {h : HX} {s' : Shared} {o : O} {a : Addr} {Q : V → Hp → Prop} (I0 : Inv prog w g ρ H h) (hk : ∀ b ob, h.get? b = some ob → s'.heap.get? b = some ob) (ha : h.get? a = none)
    (ho : OR prog w (ρ ++ [a]) (H ++ [o]) s'.heap o a) (q : newO H o Q) (hos : s'.os = h.os := by rfl) (hgs : s'.gens = h.gens := by rfl) : EPost prog w g qt ρ h.toHeap Q (.ref a) s' := by
  refine ⟨_, _, ρ ++ [a], q, ⟨a, ?_, rfl⟩, (I0.all (h' := hxs s') hk hos hgs).push (fresh_not I0 ha) (I0.gfree ha) ho, ⟨⟨[a], rfl, fun b hb => ?_⟩, fun b ob e _ _ => hk b ob e, fun b ob e => ⟨ob, hk b ob e⟩, fun _ b hb ob es ep e d => ⟨ob, es, ep, hk b ob e, d, .inr ⟨rfl, rfl⟩⟩⟩⟩
  · rw [← I0.len]; simp
  · rw [List.mem_singleton.mp hb]; exact ha
theorem newList_sound {cs : List Value} {vs : List V} {Q : V → Hp → Prop} (I : Inv prog w g ρ H (hxs s)) (r : VRs ρ vs cs) (hz : vs.length < lim) (q : newO H (.list vs) Q) : wpAny (model prog w) A (newList cs) (EPost prog w g qt ρ s.heap Q) E s := by
  have hl := r.length
  refine wpAny_newList (EPost.new I (fun b ob e => Heap.get?_push_of_some _ e) (none_ge (Nat.le_refl _)) ?_ q) (by rw [sizeLine_eq]; have : lim = 1048576 := rfl; lia)
  exact ⟨cs, 0, Heap.get?_push_size _ rfl, r.mono rfl⟩
theorem newTuple_sound {cs : List Value} {vs : List V} {Q : V → Hp → Prop} (I : Inv prog w g ρ H (hxs s)) (r : VRs ρ vs cs) (hz : vs.length < lim) (q : newO H (.tuple vs) Q) : wpAny (model prog w) A (newTuple cs) (EPost prog w g qt ρ s.heap Q) E s := by
  have hl := r.length
  refine wpAny_newTuple (EPost.new I (fun b ob e => Heap.get?_push_of_some _ e) (none_ge (Nat.le_refl _)) ?_ q) (by rw [sizeLine_eq]; have : lim = 1048576 := rfl; lia)
  exact ⟨cs, 0, Heap.get?_push_size _ rfl, r.mono rfl⟩
end
end Mine
end
section
open PySem PySem.W PyProof.Rows
set_option maxRecDepth 100000
namespace Mine
section
variable {prog : Program} {w : World} {g : HX} {qt : Bool} {K : Frag} {T : Tabs} {A : Around} {E : Value → Shared → Prop} {s : Shared} {ρ : List Addr} {H : Hp}

/-! ## one object changed -/
theorem live_but {h h' : Heap} {a : Addr} (hs : Heap.SameBut a h h') (ha : ∃ o, h'.get? a = some o) (b : Addr) (o : Obj) (e : h.get? b = some o) : ∃ o', h'.get? b = some o' := by
  by_cases q : b = a
  · rw [q]; exact ha
  · exact ⟨o, (hs.2 b q).trans e⟩
theorem step_set {h h' : Heap} {a : Addr} (ha : a ∈ ρ) (hl : ∃ o, h'.get? a = some o) (hs : Heap.SameBut a h h') (hd : DM a h h') : Step nobody qt ρ ρ h h' :=
  ⟨⟨[], by (first | exact (List.append_nil _).symm | simp), by simp⟩, fun b o e n _ => (hs.2 b (fun q => n (q ▸ ha))).trans e, live_but hs hl, fun _ b hb => by
    by_cases q : b = a
    · rw [q]; exact hd
    · intro o es ep e d; exact ⟨o, es, ep, (hs.2 b q).trans e, d, .inr ⟨rfl, rfl⟩⟩⟩
theorem dm_not_dict {h h' : Heap} {a : Addr} {ob : Obj} (e : h.get? a = some ob) (hn : ∀ es ep, ob.data ≠ .dict es ep) : DM a h h' := fun o es ep e' d => by rw [e] at e'; cases e'; exact absurd d (hn _ _)
theorem UPost.set {s' : Shared} {h : HX} {i : Nat} {a : Addr} {o o' : O} {Q : Hp → Prop} (I : Inv prog w g ρ H h) (hi : H[i]? = some o) (ha : ρ[i]? = some a) (hs : Heap.SameBut a h.toHeap s'.heap) (ho : OR prog w ρ (H.set i o') s'.heap o' a)
    (hd : DM a h.toHeap s'.heap) (ht : ∀ xs, o ≠ O.tuple xs) (q : Q (H.set i o')) (hos : s'.os = h.os := by rfl) (hgs : s'.gens = h.gens := by rfl) : UPost prog w g qt ρ h.toHeap Q s' :=
  ⟨_, ρ, q, I.set (h' := hxs s') hi ha hs (tup_set hi ht) ho ht hos hgs, step_set (List.mem_of_getElem? ha) ho.lt hs hd⟩

/-- a dict's store, with the count of its keys' turns -/
theorem setItem_dm {κ : Type} [DecidableEq κ] {knd : KeyKind prog w κ} {d : Addr} {kvs : List (κ × Value)} {k : κ} {key v : Value} {Q : Unit → Shared → Prop} (hkey : knd.is k key = true) (hm : s.heap.DictOf knd d kvs) (hz : kvs.length < lim)
    (hQ : ∀ h', h'.DictOf knd d (PySem.stored kvs k v) → Heap.SameBut d s.heap h' → DM d s.heap h' → Q () { s with heap := h', toks := s.toks + 1 }) : wpAny (model prog w) A (setItem (.ref d) key v) Q E s := by
  have hl : lim = 1048576 := rfl
  have hT := hm.typeIs
  obtain ⟨o, es, ep, ho, hc, hd, hk, hp, hn⟩ := id hm
  have hes : es.size = kvs.length := by rw [← hp.length]; simp
  by_cases hx : kvs.any (fun kv => decide (kv.1 = k)) = true
  · obtain ⟨i, hi⟩ : ∃ i, (es.findIdx? fun e => knd.is k e.key) = some i := by
      have hidx : (es.findIdx? fun e => knd.is k e.key) = kvs.findIdx? fun kv => decide (kv.1 = k) := by
        rw [← hp.findIdx k]; obtain ⟨l⟩ := es; simp
      rw [hidx]
      cases q : kvs.findIdx? fun kv => decide (kv.1 = k) with
      | some i => exact ⟨i, rfl⟩
      | none =>
        exfalso
        obtain ⟨x, hx1, hx2⟩ := List.any_eq_true.mp hx
        have := List.findIdx?_eq_none_iff.mp q x hx1
        rw [hx2] at this; cases this
    unfold setItem
    refine wpAny_holding ?_
    refine wpAny_bind (wpAny_sequenceKey hT (by decide) ?_)
    refine wpAny_bind (wpAny_callSpecial?_slot (name := Str.ofString "__setitem__") hT slot_dict_setitem (wpAny_call_entry slot_dict_setitem hT entry_dict_setitem ?_ (args_dict_setitem _ _ _)))
    show wpAny _ _ (Builtin.Dict.notOrdered "__setitem__" ⟨[.ref d, key, v], []⟩ >>= _) _ _ s
    refine wpAny_bind (wpAny_notOrdered_dict hT ?_)
    show wpAny _ _ (dictSet d key v >>= _) _ _ s
    refine wpAny_bind ?_
    unfold dictSet
    refine wpAny_holding (wpAny_bind (knd.pyHash hkey ?_))
    unfold dictSetHashed
    refine wpAny_holding (wpAny_bind (wpAny_dictFind_of (s := { s with toks := s.toks + 1 }) hkey ho hd hk ?_))
    rw [hi]
    refine wpAny_bind (wpAny_rule (wpAny_bind (wpAny_updateDict (s := { s with toks := s.toks + 1 }) ho hd (wpAny_point (wpAny_pure ⟨.none, rfl, wpAny_pure ?_⟩)))))
    have hself : (s.heap.update d (Obj.mapDict (·.modify i fun e => { e with val := v }))).get? d = some (Obj.mapDict (·.modify i fun e => { e with val := v }) o) := Heap.get?_update_self _ ho (Obj.isFreed_of_dict (Obj.data_mapDict hd _))
    refine hQ _ ⟨_, _, ep, hself, hc.mapDict _, Obj.data_mapDict hd _, hk.modify _ _, ?_, ?_⟩ (Heap.SameBut.update ..) ?_
    · rw [PySem.stored, if_pos hx]
      have hl : (es.toList.findIdx? fun e => knd.is k e.key) = some i := by rw [← hi]; obtain ⟨l⟩ := es; simp
      have := hp.modify hn hl v
      obtain ⟨l⟩ := es
      simpa using this
    · rw [PySem.stored, if_pos hx, keys_map_store]; exact hn
    · intro o' es' ep' e' d'
      rw [ho] at e'; cases e'
      rw [hd] at d'; cases d'
      exact ⟨_, _, _, hself, Obj.data_mapDict hd _, .inr ⟨by simp, rfl⟩⟩
  · refine wpAny_setItem_pairs hkey hm (fun h' hm' hs => hQ h' hm' hs ?_) (by rw [sizeLine_eq]; lia)
    intro o' es' ep' e' d'
    rw [ho] at e'; cases e'
    rw [hd] at d'; cases d'
    obtain ⟨o2, es2, ep2, ho2, _, hd2, _, hp2, _⟩ := hm'
    refine ⟨o2, es2, ep2, ho2, hd2, .inl ?_⟩
    have : es2.size = (PySem.stored kvs k v).length := by rw [← hp2.length]; simp
    rw [this, hes, PySem.stored, if_neg hx]; simp

theorem put_new {κ : Type} [DecidableEq κ] {k : κ} {v : V} : ∀ {l : List (κ × V)}, look k l = .none → put k v l = l ++ [(k, v)]
  | [], _ => rfl
  | p :: r, h => by
    unfold look at h; unfold put
    split at h
    · cases h
    · rename_i e; rw [if_neg e, put_new h]; rfl
theorem KRT.snoc {ρ : List Addr} {H : Hp} {vs cs} (x : KRT ρ H vs cs) {k : List Int} {v : V} {a : Addr} {c : Value} {j : Nat} (hv : VR ρ v c) (ha : ρ[j]? = some a) (hj : H[j]? = some (O.tuple (k.map V.int))) : KRT ρ H (vs ++ [(k, v)]) (cs ++ [(k, a, c)]) := by
  induction x with
  | nil => exact .cons hv ha hj .nil
  | cons h a b _ ih => exact .cons h a b ih

theorem setItem_sound {o k v : V} {co ck cv : Value} {Q : Hp → Prop} (hu : A.units + 1 < cLine) (I : Inv prog w g ρ H (hxs s)) (ro : VR ρ o co) (rk : VR ρ k ck) (rv : VR ρ v cv) (h : sSub H o k v Q) :
    wpAny (model prog w) A (setItem co ck cv) (fun _ s' => UPost prog w g qt ρ s.heap Q s') E s := by
  unfold sSub at h
  split at h
  · rename_i i
    obtain ⟨a, ha, rfl⟩ := ro
    split at h
    · rename_i kvs hx
      obtain ⟨cs, hd, q⟩ := I.objs i _ a hx ha
      split at h
      · rename_i n
        obtain ⟨t, rfl⟩ := rk
        obtain ⟨hz, hq⟩ := h
        refine setItem_dm (intKind_is prog w n t) hd (by rw [← q.length]; exact hz) fun h' hm hs hdm => ?_
        obtain ⟨_, _, _, _, _, _, _, _, hn⟩ := hd
        exact UPost.set (o' := O.dictI (put n v kvs)) I hx ha hs ⟨_, hm, q.stored rv hn⟩ hdm (fun _ e => by cases e) hq
      · exact h.elim
    · rename_i kvs hx
      obtain ⟨cs, hd, q⟩ := I.objs i _ a hx ha
      split at h
      · rename_i n
        obtain ⟨t, rfl⟩ := rk
        obtain ⟨hz, hq⟩ := h
        refine setItem_dm (strKind_is prog w n t) hd (by rw [← q.length]; exact hz) fun h' hm hs hdm => ?_
        obtain ⟨_, _, _, _, _, _, _, _, hn⟩ := hd
        exact UPost.set (o' := O.dictS (put n v kvs)) I hx ha hs ⟨_, hm, q.stored rv hn⟩ hdm (fun _ e => by cases e) hq
      · exact h.elim
    · rename_i kvs hx
      obtain ⟨cs, hd, q⟩ := I.objs i _ a hx ha
      cases hl : tupKey H k with
      | none => rw [hl] at h; exact h.elim
      | some l =>
        rw [hl] at h
        obtain ⟨hnew, hz, hq⟩ := h
        obtain ⟨at_, j, rfl, hj, rfl, hJ, hkey⟩ := tupKey_of (prog := prog) (w := w) I hl rk
        have hno : atKey cs l = .none := by have := q.look l; rw [hnew] at this; exact this
        refine wpAny_setItem_heap (knd := tupleKind (intKind prog w)) (tupleKind_room_in1 hu) hkey hd (fun h' hm hs => ?_) (by rw [sizeLine_eq, ← q.length]; have : lim = 1048576 := rfl; lia)
        rw [storedH_new hno] at hm
        have hij : i ≠ j := fun e => by subst e; rw [hx] at hJ; cases hJ
        have hT := tup_set (o' := O.dictT (put l v kvs)) hx (fun _ e => by cases e)
        refine UPost.set (o' := O.dictT (put l v kvs)) I hx ha hs ⟨_, hm, ?_⟩ ?_ (fun _ e => by cases e) hq
        · have z := ((q.mono (ρ' := ρ) (t := []) (by (first | exact (List.append_nil _).symm | simp)) hT)).snoc rv hj (hT _ _ hJ)
          rw [← put_new (v := v) hnew] at z
          exact z
        · intro o' es' ep' e' d'
          obtain ⟨o1, es1, ep1, h1, _, d1, l1, _⟩ := hd
          obtain ⟨o2, es2, ep2, h2, _, d2, l2, _⟩ := hm
          rw [h1] at e'; cases e'; rw [d1] at d'; cases d'
          refine ⟨o2, es2, ep2, h2, d2, .inl ?_⟩
          rw [size_of_entries l1, size_of_entries l2]; simp
    · exact h.elim
  · exact h.elim
end
end Mine
end
section
open PySem PySem.W PyProof.Rows
set_option maxRecDepth 100000
namespace Mine
section
variable {prog : Program} {w : World} {g : HX} {qt : Bool} {K : Frag} {T : Tabs} {A : Around} {E : Value → Shared → Prop} {s : Shared} {ρ : List Addr} {H : Hp}

/-! ## attributes -/
theorem AR.getL {ρ : List Addr} {kvs : List (Str × V)} {es : List DictEntry} (x : AR ρ kvs es) (n : Str) : match look n kvs with | some v => ∃ c, PySem.W.getL n es = some (some c) ∧ VR ρ v c | .none => PySem.W.getL n es = some .none := by
  have noref : ∀ {kvs es}, AR ρ kvs es → es.any (·.refKey) = false := by
    intro kvs es x
    induction x with
    | nil => rfl
    | cons _ _ ih => rw [List.any_cons, ih]; rfl
  induction x with
  | nil => rfl
  | @cons k v t hs c vs cs hv hr ih =>
    unfold look
    have hk : (DictEntry.mk hs (.str k t) c).key.isStr n = decide (k = n) := by
      show (k == n) = _
      by_cases e : k = n <;> simp [e]
    by_cases e : k = n
    · subst e
      simp only [if_true]
      exact ⟨c, by unfold PySem.W.getL; rw [List.find?_cons, hk]; simp, hv⟩
    · simp only [if_neg e]
      have : PySem.W.getL n (⟨hs, .str k t, c⟩ :: cs) = PySem.W.getL n cs := by
        unfold PySem.W.getL
        rw [List.find?_cons, hk]
        simp only [e, decide_false]
        cases List.find? (fun x => x.key.isStr n) cs with
        | some y => rfl
        | none => simp [DictEntry.refKey]
      rw [this]; exact ih
theorem inst_of {ρ : List Addr} {H : Hp} {h : HX} (I : Inv prog w g ρ H h) {i d : Nat} {C : Addr} {kvs : List (Str × V)} (hi : H[i]? = some (O.inst C d)) (hd : H[d]? = some (O.attrs kvs)) {a : Addr} (ha : ρ[i]? = some a) :
    ∃ dx es n, ρ[d]? = some dx ∧ h.get? a = some (instObj C dx) ∧ h.get? dx = some (dictOf es n) ∧ AR ρ kvs es ∧ PySem.W.InstAt h.toHeap a (instObj C dx) C (some (dictOf es n)) := by
  obtain ⟨dx, e1, e2⟩ := I.objs i _ a hi ha
  obtain ⟨es, n, e3, e4⟩ := I.objs d _ dx hd e1
  exact ⟨dx, es, n, e1, e2, e3, e4, e2, rfl, rfl, e3⟩
theorem contains_mem {α : Type} [BEq α] [LawfulBEq α] {l : List α} {a : α} (h : l.contains a = true) : a ∈ l := List.contains_iff_mem.mp h
theorem handed_of {ρ : List Addr} {v : V} {c : Value} (hp : plainV v = true) (r : VR ρ v c) : handedIn c = true := by
  cases v with
  | none => cases r; rfl
  | bool b => cases r; rfl
  | int i => obtain ⟨t, rfl⟩ := r; rfl
  | str s => obtain ⟨t, rfl⟩ := r; rfl
  | ref i => obtain ⟨a, _, rfl⟩ := r; rfl
  | st v => cases hp

theorem fr_of {sc env m} (R : ER g sc env m ρ s.heap) (I : Inv prog w g ρ H (hxs s)) : ∃ mL, Fr g.toHeap env.locals s.heap mL := by obtain ⟨mL, hn, _⟩ := R.ns; exact ⟨mL, hn, I.stays, R.lo⟩

theorem getAttr_sound {o : V} {co : Value} {n : Str} {Q : V → Hp → Prop} {expr : Bool} (W : Wd w K g T) (F : ∃ L mL, Fr g.toHeap L s.heap mL) (I : Inv prog w g ρ H (hxs s)) (ro : VR ρ o co) (h : gAttr T H o n Q) :
    wpAny (model prog w) A (getAttr co n expr) (EPost prog w g qt ρ s.heap Q) E s := by
  unfold gAttr at h
  cases hs : attrOf T H o n with
  | none => rw [hs] at h; exact h.elim
  | some r =>
  rw [hs] at h
  obtain ⟨hp, hq⟩ := h
  obtain ⟨L, mL, F⟩ := F
  unfold attrOf at hs
  split at hs
  · rename_i i
    obtain ⟨a, ha, rfl⟩ := ro
    split at hs
    · rename_i C d hi
      split at hs
      · rename_i hc
        split at hs
        · rename_i kvs hd
          obtain ⟨dx, es, k, _, _, _, har, IA⟩ := inst_of I hi hd ha
          obtain ⟨a1, a2, a3, _⟩ := W.ok.attr _ (contains_mem hc)
          have := har.getL n
          rw [hs] at this
          obtain ⟨c, e1, e2⟩ := this
          exact get_own F W.X IA a1 a2 a3 rfl e1 (handed_of hp e2) ⟨r, H, ρ, hq, e2, I, .refl⟩
        · cases hs
      · cases hs
    · cases hs
  · cases hs

theorem AR.put {ρ : List Addr} {kvs : List (Str × V)} {es : List DictEntry} (x : AR ρ kvs es) {n : Str} {v : V} {c : Value} (hv : VR ρ v c) (hs : Int) (t : Tok) : AR ρ (put n v kvs) (putL n hs (.str n t) c es) := by
  induction x with
  | nil => exact .cons hv .nil
  | @cons k v' t' hs' c' vs cs hv' hr ih =>
    unfold Mine.put putL
    have hk : (DictEntry.mk hs' (.str k t') c').key.isStr n = decide (k = n) := by
      show (k == n) = _
      by_cases e : k = n <;> simp [e]
    rw [hk]
    by_cases e : k = n
    · subst e; simp only [if_true, decide_true]; exact .cons hv hr
    · simp only [e, decide_false]; exact .cons hv' ih
theorem putL_length {n : Str} {hs : Int} {k v : Value} : ∀ es : List DictEntry, (putL n hs k v es).length ≤ es.length + 1
  | [] => by (first | exact Nat.succ_pos _ | simp [putL])
  | e :: r => by
    unfold putL
    split
    · simp
    · simp only [List.length_cons]; have := putL_length (n := n) (hs := hs) (k := k) (v := v) r; (first | exact Nat.lt_succ_of_le (by assumption) | lia)

theorem setAttr_sound {o v : V} {co cv : Value} {n : Str} {Q : Hp → Prop} (W : Wd w K g T) (I : Inv prog w g ρ H (hxs s)) (ro : VR ρ o co) (rv : VR ρ v cv) (h : sAttr T H o n v Q) :
    wpAny (model prog w) A (setAttr co n cv) (fun _ s' => UPost prog w g qt ρ s.heap Q s') E s := by
  unfold sAttr at h
  split at h
  · rename_i i
    obtain ⟨a, ha, rfl⟩ := ro
    split at h
    · rename_i C d hi
      obtain ⟨hc, h⟩ := h
      split at h
      · rename_i kvs hd
        obtain ⟨hz, hp, hq⟩ := h
        obtain ⟨dx, es, k, hdx, ha2, hdx2, har, IA⟩ := inst_of I hi hd ha
        obtain ⟨a1, a2, a3, a4, a5, a6⟩ := W.ok.attr _ (contains_mem hc)
        have X : K.In s.heap := W.X.keeps I.stays
        refine set_plain X IA a4 (osa_open (s := { s with toks := s.toks + 1 }) X IA a5 a6 fun b => ?_)
        obtain ⟨cd, hcd, hhas⟩ := any_some a2
        refine wpAny_bind (wpAny_pure (wpAny_bind (wpAny_bind (wpAny_loadPart ha2 (wpAny_bind (Looks.here (s := { s with toks := s.toks + 1 }) (looks_clsIn X hcd) ?_))))))
        rw [hhas]
        refine wpAny_pure (a := some dx) (wpAny_bind (wpAny_pure (wpAny_bind ?_)))
        unfold nsSet
        refine wpAny_bind (wpAny_bind (wpAny_askSetting (wpAny_pure (wpAny_bind (wpAny_mkText (wpAny_bind (wpAny_loadPart hdx2 ?_)))))))
        have noref : es.toArray.any (·.refKey) = false := by
          rw [← Array.any_toList]
          have : ∀ {kvs es}, AR ρ kvs es → es.any (·.refKey) = false := by
            intro kvs es x
            induction x with
            | nil => rfl
            | cons _ _ ih => rw [List.any_cons, ih]; rfl
          exact this har
        dsimp only
        rw [aRefKeyMayBeTheName_at, noref, Bool.and_false]
        refine wpAny_updatePart hdx2 ?_
        have hself : (s.heap.update dx (Obj.putName n (PyData.keyHash w.params n) (.str n (s.toks + 1)) cv)).get? dx = some (dictOf (putL n (PyData.keyHash w.params n) (.str n (s.toks + 1)) cv es) (putN n es k)) := by
          rw [← putName_dict]
          exact Heap.get?_update_self _ hdx2 (by rw [putName_dict]; rfl)
        have hes : es.length = kvs.length := har.length.symm
        refine wpAny_bind (wpAny_lookBehind hself (pastItsLine_dict (by have := putL_length (n := n) (hs := PyData.keyHash w.params n) (k := .str n (s.toks + 1)) (v := cv) es; rw [List.size_toArray, sizeLine_eq]; lia)) ?_)
        refine wpAny_pure ?_
        refine UPost.set (o' := O.attrs (put n v kvs)) I hd hdx (Heap.SameBut.update ..) ⟨_, _, hself, har.put rv _ _⟩ ?_ (fun _ e => by cases e) hq
        intro ob es1 ep1 e1 d1
        rw [hdx2] at e1; cases e1; cases d1
        refine ⟨_, _, _, hself, rfl, ?_⟩
        have key : ∀ {es : List DictEntry}, (putL n (PyData.keyHash w.params n) (.str n (s.toks + 1)) cv es).length = if es.any (·.key.isStr n) then es.length else es.length + 1 := by
          intro es
          induction es with
          | nil => rfl
          | cons x r ih =>
            unfold putL
            by_cases e : x.key.isStr n = true
            · simp [e]
            · simp only [e]; simp only [Bool.false_eq_true, if_false, List.length_cons, List.any_cons, e, Bool.false_or]; rw [ih]; split <;> simp
        simp only [List.size_toArray]
        rw [key]
        unfold putN
        split
        · exact .inr ⟨rfl, rfl⟩
        · exact .inl (Nat.lt_succ_self _)
      · exact h.elim
    · exact h.elim
  · exact h.elim
end
end Mine
end
section
open PySem PySem.W PyProof.Rows
set_option maxRecDepth 100000
namespace Mine
noncomputable def SCall (prog : Program) (w : World) (g : HX) (qt : Bool) (d : Nat) (cl : CallOp) : Prop :=
  ∀ f vs cvs H Q A s E ρ, cl f vs H Q → Ok d A → Inv prog w g ρ H (hxs s) → VRs ρ vs cvs → codeAny (model prog w) A (.call (.ref f) ⟨cvs, []⟩) (wants (EPost prog w g qt ρ s.heap Q) E) s
noncomputable def mthIs (mt : Mth) (c : Value) : Value × List Value := match mt with
  | .fn a => (.ref a, [c]) | .app => (.builtin "list.append", [c]) | .pop => (.builtin "list.pop", [c]) | .ext => (.builtin "list.extend", [c]) | .get => (.builtin "dict.get", [c]) | .upd => (.builtin "dict.update", [c])
section
variable {prog : Program} {w : World} {g : HX} {qt : Bool} {K : Frag} {T : Tabs} {A : Around} {E : Value → Shared → Prop} {s : Shared} {ρ : List Addr} {H : Hp}

theorem getMethod_sound {o : V} {co : Value} {n : Str} {mt : Mth} {pl : Sem Bool} {Q : Value × List Value → Shared → Prop} (W : Wd w K g T) (F : ∃ L mL, Fr g.toHeap L s.heap mL) (I : Inv prog w g ρ H (hxs s)) (ro : VR ρ o co) (h : methOf T H o n = some mt)
    (hq : Q (mthIs mt co) s) : wpAny (model prog w) A (getMethod co n pl) Q E s := by
  obtain ⟨L, mL, F⟩ := F
  unfold methOf at h
  split at h
  · rename_i i
    obtain ⟨a, ha, rfl⟩ := ro
    split at h
    · rename_i C d hi
      split at h
      · rename_i kvs hd
        split at h
        · rename_i hno
          split at h
          · rename_i t ht
            cases h
            obtain ⟨dx, es, k, _, _, _, har, IA⟩ := inst_of I hi hd ha
            have hm := List.mem_of_find?_eq_some ht
            have hb := List.find?_some ht
            simp only [Bool.and_eq_true, beq_iff_eq] at hb
            obtain ⟨a1, a2, a3, _⟩ := W.ok.meth _ hm
            rw [hb.1, hb.2] at a1 a2
            have := har.getL n
            cases hl : look n kvs with
            | some v => rw [hl] at hno; cases hno
            | none =>
              rw [hl] at this
              exact method_inst F W.X IA a1 a2 a3 this hq
          · cases h
        · cases h
      · cases h
    · rename_i xs hx
      obtain ⟨cs, k, e, _⟩ := I.objs i _ a hx ha
      have hl := isList_of e
      have nd : ∀ b, Value.ref a = .ref b → ∃ ob, s.heap.get? b = some ob ∧ ob.dict = none := fun b q => by cases q; exact ⟨_, e, rfl⟩
      split at h
      · rename_i hn; subst hn; cases h
        exact getMethod_builtin hl.typeIs PySem.F.plainAttrs_list PySem.F.slot_list_append PySem.F.type_list_append nd hq
      · split at h
        · rename_i hn; subst hn; cases h
          exact getMethod_builtin hl.typeIs PySem.F.plainAttrs_list PySem.F.slot_list_pop PySem.F.type_list_pop nd hq
        · split at h
          · rename_i hn; subst hn; cases h
            exact getMethod_builtin hl.typeIs PySem.F.plainAttrs_list PySem.F.slot_list_extend PySem.F.type_list_extend nd hq
          · cases h
    · rename_i kvs hx
      obtain ⟨cs, hd, _⟩ := I.objs i _ a hx ha
      split at h
      · rename_i hn; subst hn; cases h
        exact getMethod_builtin hd.typeIs PySem.F.plainAttrs_dict PySem.F.slot_dict_get PySem.F.type_dict_get hd.mapOf.noDict hq
      · split at h
        · rename_i hn; subst hn; cases h
          exact getMethod_builtin hd.typeIs PySem.F.plainAttrs_dict PySem.F.slot_dict_update PySem.F.type_dict_update hd.mapOf.noDict hq
        · cases h
    · cases h
  · cases h

theorem seqOf_at {v : V} {xs : List V} {c : Value} (I : Inv prog w g ρ H (hxs s)) (h : seqOf H v = some xs) (r : VR ρ v c) : ∃ i a cs n, v = .ref i ∧ c = .ref a ∧ H[i]? = some (O.list xs) ∧ ρ[i]? = some a ∧ s.heap.get? a = some (sqObj "list" cs n) ∧ VRs ρ xs cs := by
  unfold seqOf at h
  split at h
  · rename_i i
    obtain ⟨a, ha, rfl⟩ := r
    split at h
    · rename_i ys hy
      cases h
      obtain ⟨cs, n, e, q⟩ := I.objs i _ a hy ha
      exact ⟨i, a, cs, n, rfl, rfl, hy, ha, e, q⟩
    · cases h
  · cases h
theorem VRs.dropLast {ρ vs cs} (x : VRs ρ vs cs) : VRs ρ vs.dropLast cs.dropLast := by
  rw [List.dropLast_eq_take, List.dropLast_eq_take, x.length]; exact x.take _
theorem onO_some {α : Type} {o : Option α} {Q : α → Prop} (h : onO o Q) : ∃ a, o = some a ∧ Q a := by
  cases o with
  | none => exact h.elim
  | some a => exact ⟨a, rfl, h⟩
theorem UPost.toE {h : Heap} {Q : V → Hp → Prop} {v : V} {c : Value} {s' : Shared} (x : UPost prog w g qt ρ h (Q v) s') (hv : ∀ ρ', VR ρ' v c) : EPost prog w g qt ρ h Q c s' := by obtain ⟨H', ρ', q, i, t⟩ := x; exact ⟨v, H', ρ', q, hv ρ', i, t⟩
theorem list_set {i : Nat} {a : Addr} {xs ys : List V} {cs : List Value} {n : Nat} {Q : Hp → Prop} {s' : Shared} (I : Inv prog w g ρ H (hxs s)) (hi : H[i]? = some (O.list xs)) (ha : ρ[i]? = some a) (e : s.heap.get? a = some (sqObj "list" cs n))
    {ds : List Value} {n' : Nat} (hs : Heap.SameBut a s.heap s'.heap) (e' : s'.heap.get? a = some (sqObj "list" ds n')) (r : VRs ρ ys ds) (q : Q (H.set i (.list ys))) (hos : s'.os = s.os := by rfl) (hgs : s'.gens = s.gens := by rfl) : UPost prog w g qt ρ s.heap Q s' :=
  UPost.set (o' := O.list ys) I hi ha hs ⟨ds, n', e', r⟩ (dm_not_dict e fun _ _ z => by cases z) (fun _ z => by cases z) q hos hgs
theorem ref_inj {i j : Nat} {a b : Addr} (I : Inv prog w g ρ H (hxs s)) (hi : ρ[i]? = some a) (hj : ρ[j]? = some b) (hne : i ≠ j) : a ≠ b := fun e => by
  subst e
  exact hne ((List.getElem?_inj (List.getElem?_eq_some_iff.mp hi).1 I.nodup).mp (hi.trans hj.symm))
theorem putAll_merged {ρ : List Addr} {lvs : List (Int × V)} {ls : List (Int × Value)} {kvs : List (Int × V)} {cs : List (Int × Value)} (x : KR ρ kvs cs) (y : KR ρ lvs ls) (hn : (cs.map (·.1)).Nodup) : KR ρ (putAll kvs lvs) (merged cs ls) := by
  induction y generalizing kvs cs with
  | nil => exact x
  | @cons k v c r ls hv hr ih =>
    refine ih (x.stored hv hn) ?_
    show ((PySem.stored cs k c).map (·.1)).Nodup
    unfold PySem.stored
    split
    · rw [keys_map_store]; exact hn
    · rename_i h
      rw [List.map_append, List.nodup_append]
      refine ⟨hn, List.nodup_cons.mpr ⟨nofun, .nil⟩, fun a ha b hb => ?_⟩
      cases List.mem_singleton.mp hb
      rintro rfl
      obtain ⟨kv, h1, h2⟩ := List.mem_map.mp ha
      exact h (List.any_eq_true.mpr ⟨kv, h1, by (first | exact beq_iff_eq.mpr h2 | simpa using h2)⟩)
theorem methV_sound {cl : CallOp} {up : Bool} {d : Nat} {mt : Mth} {o : V} {co : Value} {vs : List V} {cvs : List Value} {Q : V → Hp → Prop} (hm : ∃ ob, g.get? sysModules = some ob) (hup : up = true → qt = false) (C : SCall prog w g qt d cl) (hA : Ok d A)
    (I : Inv prog w g ρ H (hxs s)) (ro : VR ρ o co) (rv : VRs ρ vs cvs) (h : methV cl up mt o vs H Q) : wpAny (model prog w) A (call (mthIs mt co).1 ((mthIs mt co).2 ++ cvs)) (EPost prog w g qt ρ s.heap Q) E s := by
  have hl : lim = 1048576 := rfl
  have hz := sizeLine_eq
  cases mt with
  | fn a => exact PySem.wpAny_call (C a (o :: vs) _ H Q A s E ρ h hA I (.cons ro rv))
  | app =>
    simp only [methV, appV] at h
    split at h
    · split at h <;> try exact h.elim
      rename_i v
      cases rv with | cons hv hr => cases hr with | nil =>
      obtain ⟨xs, hx, hlen, hq⟩ := onO_some h
      obtain ⟨i, a, cs, n, e1, rfl, hi, ha, e, q⟩ := seqOf_at I hx ro
      cases e1
      have hcs := q.length
      refine wpAny_list_append_plain (items := cs.toArray) ⟨n, e⟩ (fun h' hp hs => ?_) (by simp only [List.size_toArray]; lia)
      obtain ⟨n', e'⟩ := hp
      exact (list_set (s' := { s with heap := h' }) I hi ha e hs (ds := cs ++ [_]) (n' := n') (by rw [e']; simp) (q.append (.cons hv .nil)) hq).toE fun _ => rfl
    · exact h.elim
  | pop =>
    simp only [methV, popV] at h
    split at h
    · split at h <;> try exact h.elim
      cases rv
      obtain ⟨xs, hx, h⟩ := onO_some h
      obtain ⟨v, hv, hlen, hq⟩ := onO_some h
      obtain ⟨i, a, cs, n, e1, rfl, hi, ha, e, q⟩ := seqOf_at I hx ro
      cases e1
      have hcs := q.length
      obtain ⟨hp, hx'⟩ := getLast_get hv
      obtain ⟨c, hc, hr⟩ := q.get hx'
      refine call_meets PySem.F.slot_list_pop ⟨_, e, rfl⟩ PySem.F.entry_list_pop (PySem.F.args_list_pop_1 _) (PySem.MeetsSeq.list_pop_last a cs.toArray n c (by simp only [List.size_toArray, ← hcs]; simpa using hc) (by simp only [List.size_toArray]; lia)) ⟨e, ?_⟩
      have e' := get?_update_seq e fun ys => ys.eraseIdxIfInBounds (cs.toArray.size - 1)
      have z := list_set (qt := qt) (s' := { s with heap := s.heap.update a (Obj.mapSeq fun ys => ys.eraseIdxIfInBounds (cs.toArray.size - 1)) }) (Q := Q v) I hi ha e (Heap.SameBut.update ..) (ds := cs.dropLast) (n' := _)
        (by rw [e']; congr 2; simp only [List.size_toArray, List.eraseIdxIfInBounds_toArray]; congr 1; rw [List.dropLast_eq_take, List.eraseIdx_eq_take_drop_succ, show cs.length - 1 + 1 = cs.length by (first | exact Nat.sub_add_cancel (by lia) | lia), List.drop_length, List.append_nil]) q.dropLast hq
      obtain ⟨H', ρ', a1, a2, a3⟩ := z
      obtain ⟨t, ht, _⟩ := a3.pre
      exact ⟨v, H', ρ', a1, hr.mono ht, a2, a3⟩
    · exact h.elim
  | ext =>
    simp only [methV, extV] at h
    split at h
    · split at h <;> try exact h.elim
      rename_i w'
      cases rv with | cons hv hr => cases hr with | nil =>
      obtain ⟨xs, hx, h⟩ := onO_some h
      obtain ⟨ys, hy, hlen, hq⟩ := onO_some h
      obtain ⟨i, a, cs, n, e1, rfl, hi, ha, e, q⟩ := seqOf_at I hx ro
      cases e1
      obtain ⟨j, b, ds, n2, rfl, rfl, hj, hb, e2, q2⟩ := seqOf_at I hy hv
      have h1 := q.length; have h2 := q2.length
      refine call_meets PySem.F.slot_list_extend ⟨_, e, rfl⟩ PySem.F.entry_list_extend (PySem.F.args_list_extend_2 _ _) (PySem.AutoSeq1.list_extend_list_list_0 a cs.toArray n b ds.toArray n2 ?_ (by simp only [List.size_toArray]; lia) (by simp only [List.size_toArray]; lia)) ⟨e, e2, ?_⟩
      · simp only [List.size_toArray, Builtin.List.listTooLong, Bool.and_eq_true, not_and, Bool.not_eq_true]
        intro _
        simp only [decide_eq_false_iff_not]; lia
      · have e' := get?_update_seq e fun x => x ++ ds.toArray
        exact (list_set (s' := { s with heap := s.heap.update a (Obj.mapSeq fun x => x ++ ds.toArray), toks := s.toks }) I hi ha e (Heap.SameBut.update ..) (ds := cs ++ ds) (n' := _) (by rw [e']; simp; rfl) (q.append q2) hq).toE fun _ => rfl
    · exact h.elim
  | get =>
    simp only [methV, getV] at h
    split at h
    · rename_i i
      split at h <;> try exact h.elim
      rename_i k dv
      cases rv with | cons hk hr => cases hr with | cons hdv hr => cases hr with | nil =>
      obtain ⟨t, rfl⟩ := hk
      obtain ⟨ob, hob, h⟩ := onO_some h
      obtain ⟨a, ha, rfl⟩ := ro
      split at h
      · rename_i kvs
        obtain ⟨cs, hd, q⟩ := I.objs i _ a hob ha
        refine call_meetsIn PySem.F.slot_dict_get hd.typeIs PySem.F.entry_dict_get (PySem.F.args_dict_get_3 _ _ _) (meets_dict_get_default (intKind prog w) a (intKind_is prog w k t) (low_ne I hm (List.mem_of_getElem? ha)) _) ⟨_, hd.mapOf, ?_⟩
        refine ⟨_, H, ρ, h, ?_, I, .refl⟩
        have := q.look k
        cases hl : look k kvs with
        | none => rw [hl] at this; simp only at this; rw [this]; exact hdv
        | some v => rw [hl] at this; obtain ⟨c, e1, e2⟩ := this; rw [e1]; exact e2
      · exact h.elim
    · exact h.elim
  | upd =>
    cases up with
    | false => exact h.elim
    | true =>
    have hqf := hup rfl
    subst hqf
    simp only [methV, brB, updV] at h
    split at h
    · rename_i i
      split at h <;> try exact h.elim
      rename_i j
      cases rv with | cons hj hr => cases hr with | nil =>
      obtain ⟨b, hb, rfl⟩ := hj
      obtain ⟨ob, hob, h⟩ := onO_some h
      obtain ⟨oc, hoc, h⟩ := onO_some h
      obtain ⟨a, ha, rfl⟩ := ro
      split at h <;> try exact h.elim
      rename_i kvs
      split at h
      · rename_i lvs
        obtain ⟨hne, hlen, hq⟩ := h
        obtain ⟨cs, hd, q⟩ := I.objs i _ a hob ha
        obtain ⟨ds, hd2, q2⟩ := I.objs j _ b hoc hb
        have h1 := q.length; have h2 := q2.length
        refine call_meetsIn PySem.F.slot_dict_update hd.typeIs PySem.F.entry_dict_update (PySem.F.args_dict_update_2 _ _) (meets_dict_update (intKind prog w) a b (ref_inj I ha hb hne) (low_ne I hm (List.mem_of_getElem? hb))) ⟨cs, ds, hd, hd2, by lia, fun h' hm' _ hs => ?_⟩
        obtain ⟨_, _, _, _, _, _, _, _, hn⟩ := hd
        refine ⟨.none, _, ρ, hq, rfl, I.set hob ha hs (tup_set hob fun _ z => by cases z) ⟨_, hm', putAll_merged q q2 hn⟩ (fun _ z => by cases z), ⟨⟨[], by (first | exact (List.append_nil _).symm | simp), by simp⟩, fun c o e n _ => (hs.2 c (fun z => n (z ▸ List.mem_of_getElem? ha))).trans e, live_but hs (by obtain ⟨_, _, _, e, _⟩ := hm'; exact ⟨_, e⟩), fun z => by cases z⟩⟩
      · exact h.elim
    · exact h.elim
end
end Mine
end
section
open PySem PySem.W PyProof.Rows
set_option maxRecDepth 100000
namespace Mine
/-- around a body: a call of depth d is in reach -/
noncomputable def OkB (d : Nat) (A : Around) : Prop := A.handled = none ∧ A.depth + 2 * d + 3 < recursionLimit ∧ A.units + 16 * d + 24 < cLine ∧ A.guards = some []
theorem OkB.ok {d A} (h : OkB d A) : Ok d A := ⟨h.1, by have := h.2.1; (first | exact Nat.le_of_lt (by assumption) | lia), by have := h.2.2.1; lia, h.2.2.2⟩
theorem Ok.deeper {d A env} (h : Ok (d + 1) A) : OkB d (A.deeper env) := ⟨h.1, by have := h.2.1; show A.depth + 1 + 2 * d + 3 < recursionLimit; lia, by have := h.2.2.1; show A.units + 3 + 16 * d + 24 < cLine; lia, h.2.2.2⟩
theorem OkB.under {d A} {c : Code} (h : OkB d A) (hd : (A.under c).depth = A.depth + 1) (hc : c.cUnits = 1) (hg : c.guards = []) : Ok d (A.under c) :=
  ⟨h.1, by rw [hd]; have := h.2.1; lia, by have := h.2.2.1; show A.units + c.cUnits + 16 * d + 16 < cLine; rw [hc]; lia, by show pushGuards c.guards A.guards = _; rw [hg, h.2.2.2]; rfl⟩
section
variable {prog : Program} {w : World} {g : HX} {qt : Bool} {d : Nat} {K : Frag} {T : Tabs} {A : Around} {E : Value → Shared → Prop} {s : Shared} {ρ : List Addr} {H : Hp}

theorem ints_are {ρ : List Addr} {l : List Int} {cs : List Value} (h : VRs ρ (l.map V.int) cs) : IntsAre cs l := by
  induction l generalizing cs with
  | nil => cases h; exact .nil
  | cons a l ih => cases h with | cons hv hr => obtain ⟨t, rfl⟩ := hv; exact .cons a t (ih hr)
theorem vrs_ints {ρ : List Addr} {l : List Int} {cs : List Value} (h : IntsAre cs l) : VRs ρ (l.map V.int) cs := by
  induction h with
  | nil => exact .nil
  | cons a t _ ih => exact .cons ⟨t, rfl⟩ ih
theorem int_inv {k : Int} {v : Value} (h : (intKind prog w).is k v = true) : ∃ t, v = .int k t := by
  have h' : v.isInt k = true := h
  cases v <;> first | cases h' | skip
  rename_i i t
  simp only [Value.isInt, beq_iff_eq] at h'
  exact ⟨t, by rw [h']⟩
theorem none_back {h h' : Heap} {a : Addr} (hk : ∀ b o, h.get? b = some o → h'.get? b = some o) (e : h'.get? a = none) : h.get? a = none := by
  cases e1 : h.get? a with
  | none => rfl
  | some o => rw [hk a o e1] at e; cases e
theorem keys_are {l : List Value} {cs : List (Int × Value)} (e : l.length = cs.length) (hv : ∀ (j : Nat) (v : Value), l[j]? = some v → ∃ k x, cs[j]? = some (k, x) ∧ (intKind prog w).is k v = true) : IntsAre l (cs.map (·.1)) := by
  induction l generalizing cs with
  | nil =>
    cases cs with
    | nil => exact .nil
    | cons => cases e
  | cons v l ih =>
    cases cs with
    | nil => cases e
    | cons c cs =>
      obtain ⟨k, x, e1, e2⟩ := hv 0 v rfl
      cases e1
      obtain ⟨t, rfl⟩ := int_inv e2
      exact .cons k t (ih (Nat.succ.inj e) fun j v hj => hv (j + 1) v hj)
/-- a dict gone over into a new list: its keys -/
theorem hint_dict {r : Addr} {Q : Bool → Shared → Prop} (hT : s.TypeIs (.ref r) "dict") (q : Q false s) : wpAny (model prog w) A (Builtin.List.listLengthHint (.ref r)) Q E s := by
  unfold Builtin.List.listLengthHint
  refine wpAny_bind (wpAny_specialOf hT PySem.F.slot_dict_len.lookup ?_)
  have e1 : splitId "dict.__len__" = some ("dict", "__len__") := by decide +kernel
  dsimp only
  rw [e1]
  dsimp only
  refine wpAny_bind (wpAny_isInstance (T := "dict") (b := true) hT (by rw [isSubtype_type]; kernel_rfl) ?_)
  refine wpAny_ite_split (fun hab => absurd hab (by decide)) (fun _ => ?_)
  refine wpAny_ite_split (fun _ => wpAny_bind (wpAny_typeOf hT (wpAny_pure q))) (fun hab => absurd (by decide +kernel) hab)
theorem collect_dict {a : Addr} {cs : List (Int × Value)} {ep : Nat} {R : List Value → Shared → Prop} (hh : A.handled = none) (lo : (a == sysModules) = false) (hat : s.heap.DictAt (intKind prog w) a cs ep) (hn : cs.length ≤ sizeLine)
    (q : ∀ (h' : Heap) (tk : Nat) (acc : Array Value), (∀ b o, s.heap.get? b = some o → h'.get? b = some o) → ItemsOf (fun i v => ∃ k x, cs[i]? = some (k, x) ∧ (intKind prog w).is k v = true) acc cs.length → R acc.toList { s with heap := h', toks := tk }) :
    wpAny (model prog w) A (collect (.ref a)) R E s := by
  have hlt := hat.lt_size
  have hT : ∀ s' : Shared, s'.heap.DictAt (intKind prog w) a cs ep → s'.TypeIs (.ref a) "dict" := fun _ x => x.dictOf.typeIs
  have hne : s.heap.objs.size ≠ a := Nat.ne_of_gt hlt
  unfold collect
  refine wpAny_bind (wpAny_runValue (codeAny_builtin PySem.F.entry_proto_collect ?_))
  rw [Around.under_plainId PySem.F.plain_proto_collect _]
  show wpAny _ A.in1 (newList [] >>= fun l => again (.builtin "list.__iadd__" ⟨[l, .ref a], []⟩)) _ _ s
  refine wpAny_bind (wpAny_newObj_type (wpAny_pure ⟨plainId_quiet PySem.F.plain_list_iadd _, codeAny_builtin PySem.F.entry_list_iadd ?_⟩))
  rw [Around.under_plainId PySem.F.plain_list_iadd _]
  show wpAny _ A.in1 (Builtin.List.listExtendWith (.ref s.heap.objs.size) (.ref a) (.ref s.heap.objs.size)) _ _ _
  generalize hG : s.heap.push { cls := .type "list", data := .seq ([] : List Value).toArray } = G
  have gk : ∀ b o, s.heap.get? b = some o → G.get? b = some o := fun b o e => hG ▸ Heap.get?_push_of_some _ e
  have hS : G.get? s.heap.objs.size = some { cls := .type "list", data := .seq #[] } := hG ▸ Heap.get?_push_size _ rfl
  have gsz : G.objs.size = s.heap.objs.size + 1 := by rw [← hG, Heap.size_push]
  have hat1 : G.DictAt (intKind prog w) a cs ep := hG ▸ hat.push _
  unfold Builtin.List.listExtendWith
  refine wpAny_bind (wpAny_typeOf (hT _ hat1) ?_)
  rw [if_neg (by simp [Builtin.List.listSameRef, hne])]
  refine wpAny_bind (wpAny_pyIter_dict lo hat1 (wpAny_bind (wpAny_holding (hint_dict (hT _ (hat1.push _)) ?_))))
  have W := (Walks.dictKeys (prog := prog) (w := w) (A := A.in1) (knd := intKind prog w) hh G.objs.size a (Nat.ne_of_lt hat1.lt_size) cs ep).toS
  have hSf : s.heap.objs.size ∉ [G.objs.size, a] := by
    simp only [List.mem_cons, List.not_mem_nil, or_false, not_or]
    exact ⟨by lia, hne⟩
  generalize hG2 : G.push { cls := .type "dict_keyiterator", data := .fields #[.ref a, .int 0 0, .int cs.length 0, .int ep 0] } = G2
  have hk2 : ∀ b o, G.get? b = some o → G2.get? b = some o := fun b o e => hG2 ▸ Heap.get?_push_of_some _ e
  have it2 : G2.IsKeyIter G.objs.size a 0 cs.length ep := ⟨_, hG2 ▸ Heap.get?_push_size _ rfl, rfl, rfl⟩
  have hat2 : G2.DictAt (intKind prog w) a cs ep := hG2 ▸ hat1.push _
  have same : ∀ (f g : Array Value → Array Value) (b : Addr) (o : Obj), b ≠ s.heap.objs.size → G2.get? b = some o → ((G2.update s.heap.objs.size (Obj.mapSeq f)).update s.heap.objs.size (Obj.mapSeq g)).get? b = some o :=
    fun f g b o hb e => (Heap.get?_update_other _ _ (Ne.symm hb)).trans ((Heap.get?_update_other _ _ (Ne.symm hb)).trans e)
  have loop : ∀ {R' : Result → Shared → Prop} (h : Heap) (tk c : Nat), h.get? s.heap.objs.size = some { cls := .type "list", data := .seq #[] c } → (∀ b o, b ≠ s.heap.objs.size → G2.get? b = some o → h.get? b = some o) →
      (∀ (h' : Heap) (tk' : Nat) (acc : Array Value) (c' : Nat), h'.get? s.heap.objs.size = some { cls := .type "list", dict := none, data := .seq acc c', slots := #[] } → (∀ b o, s.heap.get? b = some o → h'.get? b = some o) →
        ItemsOf (fun i v => ∃ k x, cs[i]? = some (k, x) ∧ (intKind prog w).is k v = true) acc cs.length → R' (.ok (.ret (.ref s.heap.objs.size))) { s with heap := h', toks := tk' }) →
      codeAny (model prog w) A (.builtin "list.extend.loop" ⟨[.ref s.heap.objs.size, .ref G.objs.size, .ref s.heap.objs.size], []⟩) R' { s with heap := h, toks := tk } := by
    intro R' h tk c hl hk hR
    have st : h.IsKeyIter G.objs.size a 0 cs.length ep ∧ h.DictAt (intKind prog w) a cs ep := by
      obtain ⟨o, e, r⟩ := it2
      refine ⟨⟨o, hk _ _ (by lia) e, r⟩, hat2.at' fun o e => hk _ _ (Ne.symm hne) e⟩
    refine codeAny_extend_loopS W hn _ hSf _ cs.length 0 _ #[] c rfl (Nat.zero_le _) st hl (ItemsOf.nil _) fun s' acc' c' hm hS' hacc => ?_
    rw [Moved.eq_with hm]
    refine hR s'.heap s'.toks acc' c' hS' (fun b o e => ?_) hacc
    have hb := Heap.lt_size e
    exact hm.heap b o (by simp only [List.mem_cons, List.not_mem_nil, or_false, not_or]; exact ⟨Nat.ne_of_lt hb, by rw [gsz]; exact Nat.ne_of_lt (Nat.lt_succ_of_lt hb)⟩) (hk b o (Nat.ne_of_lt hb) (hk2 b o (gk b o e)))
  have fin : ∀ (h' : Heap) (tk' : Nat) (acc : Array Value) (c' : Nat), h'.get? s.heap.objs.size = some { cls := .type "list", dict := none, data := .seq acc c', slots := #[] } → (∀ b o, s.heap.get? b = some o → h'.get? b = some o) →
        ItemsOf (fun i v => ∃ k x, cs[i]? = some (k, x) ∧ (intKind prog w).is k v = true) acc cs.length → wpAny (model prog w) A (match Value.ref s.heap.objs.size with | .ref a => (do match (← load a).data with | .seq xs _ => pure xs.toList | _ => unsupported "internal:collect") | _ => unsupported "internal:collect") R E { s with heap := h', toks := tk' } :=
    fun h' tk' acc c' hl hk hacc => wpAny_bind (wpAny_load hl (wpAny_pure (q h' tk' acc hk hacc)))
  refine wpAny_ite_split (fun _ => ?_) (fun _ => wpAny_pure ⟨plainId_quiet PySem.F.plain_extend_loop _, loop G2 _ 0 (hk2 _ _ hS) (fun b o _ e => e) fin⟩)
  refine wpAny_bind (wpAny_rule (wpAny_bind ?_))
  show wpAny _ _ (updateSeq s.heap.objs.size (·.push .none) >>= fun _ => updateSeq s.heap.objs.size (·.pop)) _ _ _
  refine wpAny_bind (wpAny_updateSeq (hk2 _ _ hS) rfl ?_)
  have hS2 := Heap.get?_update_self (Obj.mapSeq (·.push Value.none)) (hk2 _ _ hS) rfl
  refine wpAny_updateSeq (hz := by seq_fits) hS2 rfl ?_
  exact wpAny_pure ⟨plainId_quiet PySem.F.plain_extend_loop _, loop _ _ _ (Heap.get?_update_self (Obj.mapSeq (·.pop)) hS2 rfl) (same _ _) fin⟩

theorem sorted_sound {i : Nat} {a : Addr} {kvs : List (Int × V)} {Q : V → Hp → Prop} (hm : ∃ ob, g.get? sysModules = some ob) (hh : A.handled = none) (I : Inv prog w g ρ H (hxs s)) (hi : H[i]? = some (O.dictI kvs)) (ha : ρ[i]? = some a)
    (h64 : kvs.length < 64) (q : ∀ l : List Int, l.Perm (kvs.map (·.1)) → l.Pairwise (· ≤ ·) → newO H (.list (l.map V.int)) Q) : wpAny (model prog w) A (call (.builtin "sorted") [.ref a]) (EPost prog w g qt ρ s.heap Q) E s := by
  obtain ⟨cs, hd, hr⟩ := I.objs i _ a hi ha
  obtain ⟨ep, hat⟩ := hd.dictAt
  have hlen := hr.length
  have hz := sizeLine_eq
  refine PySem.Calls.call_function_entry kind_sorted plain_sorted entry_sorted (args_sorted1 _) ?_
  unfold Builtin.«sorted»
  refine wpAny_bind (m := checkCount "sorted" 1 1 _) (wpAny_pure ?_)
  refine wpAny_bind (collect_dict (A := A.in1) (ep := ep) hh (low_ne I hm (List.mem_of_getElem? ha)) hat (by lia) fun h' tk acc hk hacc => ?_)
  have hl : acc.toList.length = cs.length := by rw [Array.length_toList]; exact hacc.1
  refine wpAny_bind (wpAny_newList ?_ (by rw [hl]; lia))
  have hI : IntsAre acc.toList (cs.map (·.1)) := keys_are hl fun j v e => hacc.2 j v (by rw [← Array.getElem?_toList]; exact e)
  have ho : (h'.push { cls := .type "list", data := .seq acc.toList.toArray }).get? h'.objs.size = some (seqObj "list" acc.toList.toArray 0) := Heap.get?_push_size _ rfl
  refine wpAny_bind (wpAny_holding (wpAny_call_entry PyProof.Rows.slot_list_sort ⟨_, ho, rfl⟩ PyProof.Rows.entry_list_sort (list_sort_tree (n := 0) (vs := acc.toList) ho hI (by lia) fun out ns' hI' hp hP => ⟨.none, rfl, ?_⟩) (PyProof.Rows.args_list_sort _)))
  refine wpAny_pure ⟨_, rfl, ?_⟩
  obtain ⟨e, he⟩ := sortedHeap_at (vs := acc.toList) (out := out) ho
  have hkk : ∀ b ob, s.heap.get? b = some ob → (sortedHeap (h'.push { cls := .type "list", data := .seq acc.toList.toArray }) h'.objs.size acc.toList out).get? b = some ob := fun b ob e1 => by
    have h1 := hk b ob e1
    have h2 := Heap.lt_size h1
    rw [sortedHeap_old (Nat.ne_of_lt h2) (by rw [Heap.size_push]; exact Nat.lt_succ_of_lt h2)]
    exact Heap.get?_push_of_some _ h1
  exact EPost.new (o := O.list (ns'.map V.int)) I hkk (none_back hk (none_ge (Nat.le_refl _))) ⟨out.toList, e, by rw [he], vrs_ints hI'⟩ (q ns' (by rw [hr.keys]; exact hp) hP)

theorem sumInt_of {l : List Int} (n : Nat) (hn : n ≤ l.length) : preSum (fun i => (l[i]?).getD 0) n = (l.take n).sum := by
  induction n with
  | zero => simp [preSum]
  | succ n ih =>
    simp only [preSum]
    rw [ih (by (first | exact Nat.le_of_lt (by assumption) | lia)), List.take_add_one, List.sum_append]
    have : l[n]? = some l[n] := List.getElem?_eq_getElem (by (first | assumption | lia))
    rw [this]; simp
theorem sum_sound {a : Addr} {l : List Int} {cs : List Value} {n : Nat} {Q : V → Hp → Prop} (hh : A.handled = none) (I : Inv prog w g ρ H (hxs s)) (e : s.heap.get? a = some (sqObj "list" cs n)) (r : VRs ρ (l.map V.int) cs) (q : Q (.int l.sum) H) :
    wpAny (model prog w) A (call (.builtin "sum") [.ref a]) (EPost prog w g qt ρ s.heap Q) E s := by
  have hI := ints_are r
  have hl := isList_of e
  have hlt := Heap.lt_size e
  refine call_sum_walkAnyS (wpAny_pyIter_list hl ?_)
  refine ⟨_, _, _, _, _, _, _, fun i => (l[i]?).getD 0, rfl, (Walks.list (A := A.in1) hh s.heap.objs.size a (Nat.ne_of_lt hlt) cs.toArray).toS, ⟨⟨_, Heap.get?_push_size _ rfl, rfl, rfl⟩, hl.push _⟩, fun b hb => ?_, fun i v hv => by obtain ⟨n, t, rfl, e⟩ := hI.at i v (by simpa using hv); exact ⟨t, by show _ = Value.int ((l[i]?).getD 0) t; rw [e]; rfl⟩, fun s' t' hm => ?_⟩
  · show b < (s.heap.push _).objs.size
    rw [Heap.size_push]
    rcases List.mem_cons.mp hb with rfl | hb
    · exact Nat.lt_succ_self _
    · rw [List.mem_singleton.mp hb]; exact Nat.lt_succ_of_lt hlt
  · have hk : ∀ b o, s.heap.get? b = some o → s'.heap.get? b = some o := fun b o e => hm.heap b o (fun hI => absurd (Heap.lt_size e) (by rw [List.mem_singleton.mp hI]; exact Nat.lt_irrefl _)) (Heap.get?_push_of_some _ e)
    have hs : preSum (fun i => (l[i]?).getD 0) cs.toArray.size = l.sum := by
      have := hI.length
      rw [List.size_toArray, this, sumInt_of _ (Nat.le_refl _), List.take_length]
    exact ⟨_, H, ρ, q, ⟨t', by rw [hs]⟩, I.all hk hm.os hm.gens, ⟨⟨[], by (first | exact (List.append_nil _).symm | simp), by simp⟩, fun b o e _ _ => hk b o e, fun b o e => ⟨o, hk b o e⟩, fun _ b _ o es ep e d => ⟨o, es, ep, hk b o e, d, .inr ⟨rfl, rfl⟩⟩⟩⟩
theorem reads_ints {h : Heap} : ∀ {l : List Int} {cs : List Value}, IntsAre cs l → ReadsAll h cs (l.map PyData.int) []
  | _, _, .nil => .nil
  | _, _, .cons a t r => .cons (as := []) (bs := []) (.int a t) (reads_ints r)
theorem depth_ints : ∀ l : List Int, PyData.depthAll (l.map PyData.int) = 0
  | [] => rfl
  | a :: l => by simp [PyData.depthAll, PyData.depth, depth_ints l]
theorem noDict_ints : ∀ l : List Int, PyData.hasDictAll (l.map PyData.int) = false
  | [] => rfl
  | a :: l => by simp [PyData.hasDictAll, PyData.hasDict, noDict_ints l]
theorem Step.keeps {P : Addr → Prop} {h h' : Heap} (hk : ∀ b o, h.get? b = some o → h'.get? b = some o) : Step P qt ρ ρ h h' :=
  ⟨⟨[], by (first | exact (List.append_nil _).symm | simp), by simp⟩, fun b o e _ _ => hk b o e, fun b o e => ⟨o, hk b o e⟩, fun _ b _ o es ep e d => ⟨o, es, ep, hk b o e, d, .inr ⟨rfl, rfl⟩⟩⟩
theorem repr_sound {a : Addr} {l : List Int} {cs : List Value} {n : Nat} {Q : V → Hp → Prop} (hg : A.guards = some []) (hu : A.units + 4 < cLine) (I : Inv prog w g ρ H (hxs s)) (e : s.heap.get? a = some (sqObj "list" cs n)) (r : VRs ρ (l.map V.int) cs)
    (h1 : (reprInts l).showable = true) (h2 : (reprInts l).shown.length ≤ lim) (q : Q (.str (reprInts l).shown) H) : wpAny (model prog w) A (call (.builtin "repr") [.ref a]) (EPost prog w g qt ρ s.heap Q) E s := by
  have hd : (reprInts l).hasDict = false := by simp only [reprInts, PyData.hasDict, noDict_ints]
  have hdp : (reprInts l).depth = 1 := by simp only [reprInts, PyData.depth, depth_ints]
  have hl : lim = 1048576 := rfl
  have hz := sizeLine_eq
  refine repr_of_reads' (d := reprInts l) (h₀ := s.heap) (Reads.list e rfl rfl (by (first | exact (reads_ints (ints_are r)) | simpa using reads_ints (ints_are r)))) h1 (PyData.noDict_hsm hd) hg (by rw [hdp]; lia) (fun _ _ z => z) (fun h' u tk hk => ?_) (by (first | exact Nat.le_trans (by assumption) (by decide) | lia))
  exact ⟨_, H, ρ, q, ⟨u, rfl⟩, I.all hk, Step.keeps hk⟩

theorem add_sound {u v : V} {xs ys : List V} {a b : Value} {Q : V → Hp → Prop} (I : Inv prog w g ρ H (hxs s)) (hx : seqOf H u = some xs) (hy : seqOf H v = some ys) (ra : VR ρ u a) (rb : VR ρ v b) (hz : xs.length + ys.length < lim)
    (q : newO H (.list (xs ++ ys)) Q) : wpAny (model prog w) A (binaryOp .Add a b) (EPost prog w g qt ρ s.heap Q) E s := by
  obtain ⟨_, a, cs, n, _, rfl, _, _, e1, r1⟩ := seqOf_at I hx ra
  obtain ⟨_, b, ds, n2, _, rfl, _, _, e2, r2⟩ := seqOf_at I hy rb
  have h1 := r1.length; have h2 := r2.length
  have hl : lim = 1048576 := rfl
  have hz' := sizeLine_eq
  refine concat_meets ⟨_, e1, rfl⟩ ⟨_, e2, rfl⟩ noFill_list_add seq_list_add PySem.F.slot_list_add PySem.F.entry_list_add (PySem.F.args_list_add_2 _ _) (list_addW a b cs.toArray ds.toArray n n2 none none #[] #[] (by simp only [List.size_toArray]; lia)) ⟨e1, e2, ?_⟩
  refine EPost.new (o := O.list (xs ++ ys)) I (fun b ob e => Heap.get?_push_of_some _ e) (none_ge (Nat.le_refl _)) ⟨cs ++ ds, 0, ?_, (r1.mono rfl).append (r2.mono rfl)⟩ q
  rw [Heap.get?_push_size _ (by rfl)]; simp
theorem tuple_sound {i : Nat} {a : Addr} {xs : List V} {Q : V → Hp → Prop} (I : Inv prog w g ρ H (hxs s)) (hi : H[i]? = some (O.list xs)) (ha : ρ[i]? = some a) (hz : xs.length < lim) (q : newO H (.tuple xs) Q) :
    wpAny (model prog w) A (call (.type "tuple") [.ref a]) (EPost prog w g qt ρ s.heap Q) E s := by
  obtain ⟨cs, n, e, r⟩ := I.objs i _ a hi ha
  have h1 := r.length
  have hl : lim = 1048576 := rfl
  have hz' := sizeLine_eq
  refine call_tuple_list (isList_of e) (fun h' hk => ?_) (by simp only [List.size_toArray]; lia)
  exact EPost.new (o := O.tuple xs) I (fun b ob e => Heap.get?_push_of_some _ (hk b ob e)) (none_back hk (none_ge (Nat.le_refl _))) ⟨cs, 0, Heap.get?_push_size _ rfl, r.mono rfl⟩ q
theorem list_sound {i : Nat} {a : Addr} {xs : List V} {Q : V → Hp → Prop} (I : Inv prog w g ρ H (hxs s)) (hi : H[i]? = some (O.list xs)) (ha : ρ[i]? = some a) (hz : xs.length < lim) (q : newO H (.list xs) Q) :
    wpAny (model prog w) A (call (.type "list") [.ref a]) (EPost prog w g qt ρ s.heap Q) E s := by
  obtain ⟨cs, n, e, r⟩ := I.objs i _ a hi ha
  have h1 := r.length
  have hl : lim = 1048576 := rfl
  have hz' := sizeLine_eq
  refine call_list_seq a (.inl rfl) e rfl rfl (fun h' c' hk e' => ?_) (by simp only [List.size_toArray]; lia)
  exact EPost.new (o := O.list xs) I hk (none_ge (Nat.le_refl _)) ⟨cs, c', e', r.mono rfl⟩ q
theorem dict_sound {i : Nat} {a : Addr} {kvs : List (Int × V)} {Q : V → Hp → Prop} (hm : ∃ ob, g.get? sysModules = some ob) (I : Inv prog w g ρ H (hxs s)) (hi : H[i]? = some (O.dictI kvs)) (ha : ρ[i]? = some a) (hz : kvs.length < lim) (q : newO H (.dictI kvs) Q) :
    wpAny (model prog w) A (call (.type "dict") [.ref a]) (EPost prog w g qt ρ s.heap Q) E s := by
  obtain ⟨cs, hd, r⟩ := I.objs i _ a hi ha
  have h1 := r.length
  have hl : lim = 1048576 := rfl
  have hz' := sizeLine_eq
  refine kt_call_dict (low_ne I hm (List.mem_of_getElem? ha)) hd (by lia) fun h' hd' hs => ?_
  exact EPost.new (o := O.dictI kvs) I (fun b ob e => (hs.2 b (Nat.ne_of_lt (Heap.lt_size e))).trans (Heap.get?_push_of_some _ e)) (none_ge (Nat.le_refl _)) ⟨cs, hd', r.mono rfl⟩ q
theorem len_sound {i : Nat} {a : Addr} {o : O} {n : Nat} {Q : V → Hp → Prop} (hm : ∃ ob, g.get? sysModules = some ob) (I : Inv prog w g ρ H (hxs s)) (hi : H[i]? = some o) (ha : ρ[i]? = some a) (hn : lenOf o = some n) (hz : n < lim) (q : Q (.int n) H) :
    wpAny (model prog w) A (call (.builtin "len") [.ref a]) (EPost prog w g qt ρ s.heap Q) E s := by
  have x := I.objs i _ a hi ha
  have hl : lim = 1048576 := rfl
  have fin : ∀ m : Int, m = n → ∀ tk tk', EPost prog w g qt ρ s.heap Q (.int m tk) { s with toks := tk' } := fun m e tk tk' => ⟨_, H, ρ, q, ⟨tk, by rw [e]⟩, I, .refl⟩
  cases o <;> simp only [lenOf] at hn <;> cases hn
  · obtain ⟨cs, k, e, r⟩ := x
    have h1 := r.length
    exact PyProof.Rows.len_list (isList_of e) (by simp only [List.size_toArray]; lia) (fin _ (by simp [h1]) _ _)
  · obtain ⟨cs, k, e, r⟩ := x
    have h1 := r.length
    exact PyProof.Rows.len_tuple (isTup_of e) (by simp only [List.size_toArray]; lia) (fin _ (by simp [h1]) _ _)
  · obtain ⟨cs, hd, r⟩ := x
    have h1 := r.length
    exact call_len_dict (low_ne I hm (List.mem_of_getElem? ha)) hd (by lia) (fin _ (by simp [h1]) _ _)

theorem typV_sound {id : String} {vs : List V} {cvs : List Value} {Q : V → Hp → Prop} (hm : ∃ ob, g.get? sysModules = some ob) (I : Inv prog w g ρ H (hxs s)) (rv : VRs ρ vs cvs) (h : typV id vs H Q) :
    wpAny (model prog w) A (call (.type id) cvs) (EPost prog w g qt ρ s.heap Q) E s := by
  unfold typV at h
  split at h
  · rename_i i
    cases rv with | cons hv hr => cases hr with | nil =>
    obtain ⟨t, rfl⟩ := hv
    split at h
    · rename_i e; subst e
      exact call_int_int ⟨_, H, ρ, h, ⟨t, rfl⟩, I, .refl⟩
    · split at h
      · rename_i e; subst e
        exact call_range_1 (EPost.new (o := O.range 0 i) I (fun b ob e => Heap.get?_push_of_some _ e) (none_ge (Nat.le_refl _)) ⟨_, _, _, Heap.get?_push_size _ rfl, ⟨by decide, by decide⟩, h.1⟩ h.2)
      · exact h.elim
  · rename_i i j
    cases rv with | cons hv hr => cases hr with | cons hv' hr => cases hr with | nil =>
    obtain ⟨t, rfl⟩ := hv
    obtain ⟨t', rfl⟩ := hv'
    split at h
    · rename_i e; subst e
      exact call_range_2 (EPost.new (o := O.range i j) I (fun b ob e => Heap.get?_push_of_some _ e) (none_ge (Nat.le_refl _)) ⟨_, _, _, Heap.get?_push_size _ rfl, h.1, h.2.1⟩ h.2.2)
    · exact h.elim
  · rename_i i
    cases rv with | cons hv hr => cases hr with | nil =>
    obtain ⟨a, ha, rfl⟩ := hv
    have sq : ∀ {R}, onO (seqOf H (.ref i)) R → ∃ xs, H[i]? = some (O.list xs) ∧ R xs := fun {R} h => by
      obtain ⟨xs, e, r⟩ := onO_some h
      obtain ⟨j, _, _, _, e1, _, hj, _⟩ := seqOf_at I e ⟨a, ha, rfl⟩
      cases e1
      exact ⟨xs, hj, r⟩
    split at h
    · rename_i e; subst e
      obtain ⟨xs, hi, hz, q⟩ := sq h
      exact tuple_sound I hi ha hz q
    · split at h
      · rename_i e; subst e
        obtain ⟨xs, hi, hz, q⟩ := sq h
        exact list_sound I hi ha hz q
      · split at h
        · rename_i e; subst e
          obtain ⟨o, hi, h⟩ := onO_some h
          split at h
          · exact dict_sound hm I hi ha h.1 h.2
          · exact h.elim
        · exact h.elim
  · exact h.elim
theorem bltV_sound {id : String} {vs : List V} {cvs : List Value} {Q : V → Hp → Prop} (hm : ∃ ob, g.get? sysModules = some ob) (hA : OkB d A) (I : Inv prog w g ρ H (hxs s)) (rv : VRs ρ vs cvs) (h : bltV id vs H Q) :
    wpAny (model prog w) A (call (.builtin id) cvs) (EPost prog w g qt ρ s.heap Q) E s := by
  unfold bltV at h
  split at h
  · rename_i i
    cases rv with | cons hv hr => cases hr with | nil =>
    obtain ⟨t, rfl⟩ := hv
    split at h
    · rename_i e; subst e
      exact call_abs_int fun u tk => ⟨_, H, ρ, h, ⟨u, by congr 1; split <;> omega⟩, I, .refl⟩
    · exact h.elim
  · rename_i i
    cases rv with | cons hv hr => cases hr with | nil =>
    obtain ⟨a, ha, rfl⟩ := hv
    obtain ⟨o, hi, h0⟩ := onO_some h
    clear h
    have h := h0
    clear h0
    have sq : ∀ {R}, (onO (seqOf H (.ref i)) fun xs => onO (ints? xs) R) → ∃ l cs n, s.heap.get? a = some (sqObj "list" cs n) ∧ VRs ρ (l.map V.int) cs ∧ R l := fun {R} h => by
      obtain ⟨xs, e, h⟩ := onO_some h
      obtain ⟨l, e', r⟩ := onO_some h
      obtain ⟨j, b, cs, n, e1, e2, hj, hb, e3, r3⟩ := seqOf_at I e ⟨a, ha, rfl⟩
      cases e2
      obtain ⟨_, e4⟩ := ints_of (prog := prog) (w := w) e' r3
      subst e4
      exact ⟨l, cs, n, e3, r3, r⟩
    split at h
    · rename_i e; subst e
      obtain ⟨n, hn, h⟩ := onO_some h
      exact len_sound hm I hi ha hn h.1 h.2
    · split at h
      · rename_i e; subst e
        split at h
        · exact sorted_sound hm hA.1 I hi ha h.1 h.2
        · exact h.elim
      · split at h
        · rename_i e; subst e
          obtain ⟨l, cs, n, e, r, q⟩ := sq h
          exact sum_sound hA.1 I e r q
        · split at h
          · rename_i e; subst e
            obtain ⟨l, cs, n, e, r, h1, h2, q⟩ := sq h
            exact repr_sound hA.2.2.2 (by have := hA.2.2.1; lia) I e r h1 h2 q
          · exact h.elim
  · exact h.elim

theorem callV_sound {cl : CallOp} {f : Value} {vs : List V} {cvs : List Value} {Q : V → Hp → Prop} (W : Wd w K g T) (hm : ∃ ob, g.get? sysModules = some ob) (C : SCall prog w g qt d cl) (hA : OkB d A) (I : Inv prog w g ρ H (hxs s)) (rv : VRs ρ vs cvs) (h : callV T cl f vs H Q) :
    wpAny (model prog w) A (call f cvs) (EPost prog w g qt ρ s.heap Q) E s := by
  unfold callV at h
  split at h
  · rename_i a
    split at h
    · rename_i fi hfi
      obtain ⟨c1, c2, c3, c4⟩ := W.ok.init _ _ hfi
      have X := W.X.keeps I.stays
      have I0 : Inv prog w g ρ H ⟨(s.heap.push emptyDict).push (instObj a s.heap.objs.size), s.os, s.gens⟩ := I.all fun b o e => Heap.get?_push_of_some _ (Heap.get?_push_of_some _ e)
      have n1 : s.heap.get? s.heap.objs.size = none := none_ge (Nat.le_refl _)
      have n2 : s.heap.get? (s.heap.objs.size + 1) = none := none_ge (Nat.le_succ _)
      have I1 := I0.push (o := O.attrs []) (fresh_not I n1) (I.gfree n1) ⟨[], 0, Heap.get?_push_of_some _ (Heap.get?_push_size _ rfl), .nil⟩
      have I2 := I1.push (a := s.heap.objs.size + 1) (o := O.inst a H.length) (fun hz => by
        rcases List.mem_append.mp hz with hz | hz
        · exact fresh_not I n2 hz
        · exact Nat.succ_ne_self _ (List.mem_singleton.mp hz)) (I.gfree n2) ⟨s.heap.objs.size, by rw [← I.len]; simp, by
          have := Heap.get?_push_size (s.heap.push emptyDict) (o := instObj a s.heap.objs.size) rfl
          rw [Heap.size_push] at this; exact this⟩
      rw [List.append_assoc, List.append_assoc] at I2
      have S : Step nobody qt ρ (ρ ++ [s.heap.objs.size, s.heap.objs.size + 1]) s.heap ((s.heap.push emptyDict).push (instObj a s.heap.objs.size)) :=
        ⟨⟨_, rfl, fun b hb => by rcases List.mem_cons.mp hb with rfl | hb; exact n1; rw [List.mem_singleton.mp hb]; exact n2⟩, fun b o e _ _ => Heap.get?_push_of_some _ (Heap.get?_push_of_some _ e), fun b o e => ⟨o, Heap.get?_push_of_some _ (Heap.get?_push_of_some _ e)⟩,
          fun _ b _ o es ep e d => ⟨o, es, ep, Heap.get?_push_of_some _ (Heap.get?_push_of_some _ e), d, .inr ⟨rfl, rfl⟩⟩⟩
      have hself : (ρ ++ [s.heap.objs.size, s.heap.objs.size + 1])[H.length + 1]? = some (s.heap.objs.size + 1) := by rw [← I.len]; simp
      obtain ⟨hh, gg, dd, tk, os⟩ := s
      refine PySem.wpAny_call (make_core (makes_of X c1) (looks_findIn X c2) (fun self => bind_fn X self c3) (.inl rfl) ?_)
      have hA' : Ok d (A.under (.builtin "type.__call__" ⟨.ref a :: cvs, []⟩)) := by
        exact hA.under (depth_under_kw A a cvs []) (by kernel_rfl) (by kernel_rfl)
      refine codeAny_mono (C fi _ _ _ _ _ ⟨(hh.push emptyDict).push (instObj a hh.objs.size), gg, dd, tk, os⟩ E _ h hA' I2 (.cons ⟨_, hself, rfl⟩ (rv.mono rfl))) fun r s' z => ?_
      rcases r with e | (v | _ | _ | _) <;> first | exact z | exact z.elim | skip
      obtain ⟨v', H', ρ', ⟨q0, q⟩, r, I', S'⟩ := z
      subst q0
      obtain ⟨t, ht, _⟩ := S'.pre
      exact ⟨r, _, H', ρ', q, ⟨_, pre_get ht hself, rfl⟩, I', S.trans S'⟩
    · exact PySem.wpAny_call (C a vs cvs H Q A s E ρ h hA.ok I rv)
  · exact bltV_sound hm hA I rv h
  · exact typV_sound hm I rv h
  · exact h.elim
end
end Mine
end
section
open PySem PySem.W PyProof.Rows
set_option maxRecDepth 100000
namespace Mine
section
variable {prog : Program} {w : World} {g : HX} {qt : Bool} {d : Nat} {K : Frag} {T : Tabs} {A : Around} {E : Value → Shared → Prop} {s : Shared} {ρ ρ₁ : List Addr} {H H₁ : Hp} {P : Addr → Prop}

/-! ## garbage of a loop's own -/
theorem Step.off {Z : Addr → Prop} {h h₁ h₂ : Heap} (S : Step P qt ρ ρ₁ h h₁) (hZ : ∀ a, Z a → h.get? a = none) (hk : ∀ b ob, ¬ Z b → h₁.get? b = some ob → h₂.get? b = some ob) : Step P qt ρ ρ₁ h h₂ := by
  have old : ∀ a o, h.get? a = some o → ¬ Z a := fun a o e z => by rw [hZ a z] at e; cases e
  refine ⟨S.pre, fun a o e n p => hk a o (old a o e) (S.pres a o e n p), fun a o e => ?_, fun hq a ha o es ep e dd => ?_⟩
  · obtain ⟨o', e'⟩ := S.live a o e
    exact ⟨o', hk a o' (old a o e) e'⟩
  · obtain ⟨o', es', ep', e', d', c⟩ := S.dm hq a ha o es ep e dd
    exact ⟨o', es', ep', hk a o' (old a o e) e', d', c⟩
theorem Inv.off {Z : Addr → Prop} {h h₁ h₂ : HX} (I : Inv prog w g ρ₁ H₁ h₁) (I0 : Inv prog w g ρ H h) (hZ : ∀ a, Z a → h.get? a = none) (hρ : ∀ a, Z a → a ∉ ρ₁) (hk : ∀ b ob, ¬ Z b → h₁.get? b = some ob → h₂.get? b = some ob) (hos : h₂.os = h₁.os := by rfl) (hgs : h₂.gens = h₁.gens := by rfl) : Inv prog w g ρ₁ H₁ h₂ :=
  I.quiet (fun b o e e1 => hk b o (fun z => by have := I0.stays b o e; rw [hZ b z] at this; cases this) e1) (fun a ha o e => hk a o (fun z => hρ a z ha) e) hos hgs
theorem Heap.Ns.live {h : Heap} {a : Addr} {m : Str → Option Value} (hn : h.Ns a m) : ∃ o, h.get? a = some o := by obtain ⟨o, _, _, e, _⟩ := hn; exact ⟨o, e⟩
theorem ER.off {Z : Addr → Prop} {h h₁ h₂ : Heap} {sc env m m0} (R : ER g sc env m ρ₁ h₁) (R0 : ER g sc env m0 ρ h) (hZ : ∀ a, Z a → h.get? a = none) (hk : ∀ b ob, ¬ Z b → h₁.get? b = some ob → h₂.get? b = some ob) : ER g sc env m ρ₁ h₂ := by
  have old : ∀ a, (∃ o, h.get? a = some o) → ¬ Z a := fun a ⟨o, e⟩ z => by rw [hZ a z] at e; cases e
  obtain ⟨mL, hn, hv⟩ := R.ns
  obtain ⟨_, hn0, _⟩ := R0.ns
  have l1 := old _ (Heap.Ns.live hn0)
  refine ⟨R.kind, R.glob, R.blt, R.cls, R.cel, R.lo, R.apart, ⟨mL, ?_, hv⟩, fun x hx => ?_, R.inj⟩
  · obtain ⟨o, es, ep, e, r⟩ := hn; exact ⟨o, es, ep, hk _ _ l1 e, r⟩
  · obtain ⟨c, a, b, n, l, ov, ⟨o, p, q⟩, hm⟩ := R.cells x hx
    obtain ⟨c0, a0, _, _, _, _, ⟨o0, p0, _⟩, _⟩ := R0.cells x hx
    rw [a] at a0; cases a0
    exact ⟨c, a, b, n, l, ov, ⟨o, hk _ _ (old c ⟨o0, p0⟩) p, q⟩, hm⟩

/-! ## what a loop goes over -/
noncomputable def SrcAt (h : Heap) (o : O) (a it : Addr) (k : Nat) : Prop := match o with
  | .list _ => h.IsListIter it a k
  | .tuple _ => h.IsTupleIter it a k
  | .dictI kvs => ∃ ep, h.IsKeyIter it a k kvs.length ep ∧ ∃ ob es, h.get? a = some ob ∧ ob.data = .dict es ep
  | .range lo hi => IsRangeIter h it (lo + k) (((hi - lo).toNat : Int) - k) 1
  | _ => False
noncomputable def srcCls : O → String
  | .list _ => "list_iterator"
  | .tuple _ => "tuple_iterator"
  | .dictI _ => "dict_keyiterator"
  | _ => "range_iterator"
theorem SrcAt.cls {h : Heap} {o : O} {a it : Addr} {k : Nat} (x : SrcAt h o a it k) : ∃ ob vs, h.get? it = some ob ∧ ob.cls = .type (srcCls o) ∧ ob.data = .fields vs := by
  cases o with
  | list xs => obtain ⟨ob, e, c, dd⟩ := x; exact ⟨ob, _, e, c, dd⟩
  | tuple xs => obtain ⟨ob, e, c, dd⟩ := x; exact ⟨ob, _, e, c, dd⟩
  | dictI kvs => obtain ⟨ep, ⟨ob, e, c, dd⟩, _⟩ := x; exact ⟨ob, _, e, c, dd⟩
  | range lo hi => exact ⟨_, _, x, rfl, rfl⟩
  | dictS kvs => exact x.elim
  | dictT kvs => exact x.elim
  | inst C dd => exact x.elim
  | attrs kvs => exact x.elim
theorem owned_go {o : O} {a it : Addr} {k : Nat} {target : PySem.Expr} {v : Value} {Q : Unit → Shared → Prop} (x : SrcAt s.heap o a it k) (q : Q () s) : wpAny (model prog w) A (letOwnedTupleGo target (.ref it) v) Q E s := by
  obtain ⟨ob, vs, e, c, dd⟩ := x.cls
  have no : ["enumerate", "zip", "dict_itemiterator", "dict_reverseitemiterator", "odict_iterator", "itertools.zip_longest", "itertools.pairwise"].contains (srcCls o) = false := by
    cases o <;> (dsimp only [srcCls]; decide)
  have tail : ∀ ts k p, wpAny (model prog w) A (letOwnedTupleGo (.Tuple ts k p) (.ref it) v) Q E s := fun ts k p => by
    cases v with
    | ref b =>
      refine wpAny_bind (wpAny_load e ?_)
      rw [c, dd]
      dsimp only
      rw [no, Bool.false_and, if_neg Bool.false_ne_true]
      exact wpAny_pure q
    | _ => exact wpAny_pure q
  cases target with
  | Tuple ts k p => exact tail ts k p
  | List ts p => exact tail ts 0 p
  | _ => exact wpAny_pure q

theorem small_range {a b : Int} (ha : smallI a) (hb : smallI b) : Builtin.Range.small a b 1 = true ∧ Builtin.Range.rangeSize a b 1 = ((b - a).toNat : Int) := by
  unfold smallI at ha hb
  simp only [show (2 : Int) ^ 40 = 1099511627776 from by decide] at ha hb
  have e : Builtin.Range.rangeSize a b 1 = ((b - a).toNat : Int) := by
    unfold Builtin.Range.rangeSize
    rw [if_pos (by decide), Int.ediv_one]
    split <;> lia
  refine ⟨?_, e⟩
  unfold Builtin.Range.small Builtin.Range.rangeFitsLong
  rw [e]
  simp only [show (2 : Int) ^ 63 = 9223372036854775808 from by decide, Bool.and_eq_true, Bool.or_eq_true, decide_eq_true_eq]
  refine ⟨⟨⟨⟨?_, ?_⟩, ?_⟩, ?_⟩, .inr ?_⟩ <;> first | (first | decide | lia) | (rw [if_pos (by decide)]; simp only [Bool.and_eq_true, decide_eq_true_eq]; lia)

theorem src_start {i : Nat} {o : O} {a : Addr} {xs : List V} {Q : Value → Shared → Prop} (hm : ∃ ob, g.get? sysModules = some ob) (I : Inv prog w g ρ H (hxs s)) (hi : H[i]? = some o) (ha : ρ[i]? = some a) (hx : itemsOf o = some xs)
    (q : ∀ ob, SrcAt (s.heap.push ob) o a s.heap.objs.size 0 → Q (.ref s.heap.objs.size) { s with heap := s.heap.push ob }) : wpAny (model prog w) A (pyIter (.ref a)) Q E s := by
  have x := I.objs i o a hi ha
  cases o with
  | list ys => obtain ⟨cs, n, e, r⟩ := x; exact wpAny_pyIter_list (isList_of e) (q _ ⟨_, Heap.get?_push_size _ rfl, rfl, rfl⟩)
  | tuple ys => obtain ⟨cs, n, e, r⟩ := x; exact wpAny_pyIter_tuple (isTup_of e) (q _ ⟨_, Heap.get?_push_size _ rfl, rfl, rfl⟩)
  | dictI kvs =>
    obtain ⟨cs, hd, r⟩ := x
    obtain ⟨ep, hat⟩ := hd.dictAt
    refine wpAny_pyIter_dict (low_ne I hm (List.mem_of_getElem? ha)) hat (q _ ⟨ep, by rw [r.length]; exact ⟨_, Heap.get?_push_size _ rfl, rfl, rfl⟩, ?_⟩)
    obtain ⟨ob, es, e, _, dd, _⟩ := hat
    exact ⟨ob, es, Heap.get?_push_of_some _ e, dd⟩
  | range lo hi' =>
    obtain ⟨t, u, v, e, s1, s2⟩ := x
    obtain ⟨z1, z2⟩ := small_range s1 s2
    refine wpAny_pyIter_range e z1 (q _ ?_)
    show IsRangeIter _ _ _ _ _
    rw [z2]
    have : ((hi' - lo).toNat : Int) - ((0 : Nat) : Int) = ((hi' - lo).toNat : Int) := by (first | rfl | simp)
    rw [this, show lo + ((0 : Nat) : Int) = lo by simp]
    exact Heap.get?_push_size _ rfl
  | dictS kvs => cases hx
  | dictT kvs => cases hx
  | inst C dd => cases hx
  | attrs kvs => cases hx

theorem src_next {i : Nat} {o : O} {a it : Addr} {k : Nat} {xs : List V} {Q : Option Value → Shared → Prop} (hh : A.handled = none) (I : Inv prog w g ρ H (hxs s)) (hi : H[i]? = some o) (ha : ρ[i]? = some a) (hx : itemsOf o = some xs) (X : SrcAt s.heap o a it k) (hit : it ∉ ρ)
    (q0 : xs.length ≤ k → ∀ h', (∀ b ob, b ≠ it → s.heap.get? b = some ob → h'.get? b = some ob) → Q none { s with heap := h' })
    (q1 : ∀ v c h' tk, xs[k]? = some v → VR ρ v c → SrcAt h' o a it (k + 1) → (∀ b ob, b ≠ it → s.heap.get? b = some ob → h'.get? b = some ob) → Q (some c) { s with heap := h', toks := tk }) : wpAny (model prog w) A (pyNext (.ref it)) Q E s := by
  have x := I.objs i o a hi ha
  have hne : a ≠ it := fun e => hit (e ▸ List.mem_of_getElem? ha)
  cases o with
  | list ys =>
    obtain ⟨cs, n, e, r⟩ := x
    cases hx
    cases hk : xs[k]? with
    | none =>
      have hl := r.length
      have : xs.length ≤ k := List.getElem?_eq_none_iff.mp hk
      exact wpAny_pyNext_list_end hh X (isList_of e) (by simp only [List.getElem?_toArray]; exact List.getElem?_eq_none_iff.mpr (by lia)) fun h' hs => q0 this h' fun b ob hb e => hs b ob hb e
    | some v =>
      obtain ⟨c, hc, hr⟩ := r.get hk
      exact wpAny_pyNext_list_item X (isList_of e) (by simpa using hc) fun h' X' hs => q1 v c h' s.toks hk hr X' fun b ob hb e => (hs.2 b hb).trans e
  | tuple ys =>
    obtain ⟨cs, n, e, r⟩ := x
    cases hx
    cases hk : xs[k]? with
    | none =>
      have hl := r.length
      have : xs.length ≤ k := List.getElem?_eq_none_iff.mp hk
      exact wpAny_pyNext_tuple_end hh X (isTup_of e) (by simp only [List.getElem?_toArray]; exact List.getElem?_eq_none_iff.mpr (by lia)) fun h' hs => q0 this h' fun b ob hb e => hs b ob hb e
    | some v =>
      obtain ⟨c, hc, hr⟩ := r.get hk
      exact wpAny_pyNext_tuple_item X (isTup_of e) (by simpa using hc) fun h' X' hs => q1 v c h' s.toks hk hr X' fun b ob hb e => (hs.2 b hb).trans e
  | dictI kvs =>
    obtain ⟨cs, hd, r⟩ := x
    cases hx
    obtain ⟨ep, hX, ob, es, e, dd⟩ := X
    obtain ⟨ep', hat⟩ := hd.dictAt
    have : ep' = ep := by
      obtain ⟨ob', es', e', _, dd', _⟩ := hat
      rw [e] at e'; cases e'; rw [dd] at dd'; cases dd'; rfl
    subst this
    have hl := r.length
    rw [hl] at hX
    cases hk : cs[k]? with
    | none =>
      have : cs.length ≤ k := List.getElem?_eq_none_iff.mp hk
      exact wpAny_pyNext_dict_end hh hX hat hk fun h' hs => q0 (by simp; lia) h' fun b ob hb e => hs b ob hb e
    | some kv =>
      obtain ⟨key, val⟩ := kv
      refine wpAny_pyNext_dict_item hX hat hk fun c h' hc X' hs => ?_
      obtain ⟨t, rfl⟩ := int_inv hc
      refine q1 (.int key) _ h' s.toks ?_ ⟨t, rfl⟩ ⟨ep', by rw [hl]; exact X', ob, es, (hs.2 a hne).trans e, dd⟩ fun b ob hb e => (hs.2 b hb).trans e
      have z : (kvs.map (·.1))[k]? = some key := by rw [r.keys, List.getElem?_map, hk]; rfl
      rw [List.getElem?_map] at z ⊢
      cases hq : kvs[k]? with
      | none => rw [hq] at z; cases z
      | some p => rw [hq] at z; cases z; rfl
  | range lo hi' =>
    cases hx
    by_cases hlt : k < (hi' - lo).toNat
    · refine wpAny_pyNext_range_item X (by lia) fun h' X' hs => ?_
      refine q1 (.int (lo + k)) _ h' _ ?_ ⟨_, rfl⟩ ?_ fun b ob hb e => (hs.2 b hb).trans e
      · rw [List.getElem?_map, List.getElem?_range hlt]; rfl
      · show IsRangeIter _ _ _ _ _
        have e1 : lo + ((k + 1 : Nat) : Int) = lo + (k : Int) + 1 := by push_cast; lia
        have e2 : ((hi' - lo).toNat : Int) - ((k + 1 : Nat) : Int) = ((hi' - lo).toNat : Int) - (k : Int) - 1 := by push_cast; lia
        rw [e1, e2]
        exact X'
    · exact wpAny_pyNext_range_end hh X (by lia) fun h' hs => q0 (by simp; lia) h' fun b ob hb e => hs b ob hb e
  | dictS kvs => cases hx
  | dictT kvs => cases hx
  | inst C dd => cases hx
  | attrs kvs => cases hx

theorem src_keep {q : Bool} {i : Nat} {o : O} {a it : Addr} {k : Nat} {h h' : HX} (I : Inv prog w g ρ H h) (hi : H[i]? = some o) (ha : ρ[i]? = some a) (X : SrcAt h.toHeap o a it k) (hit : it ∉ ρ) (hP : ¬ P it) (S : Step P q ρ ρ₁ h.toHeap h'.toHeap) (I' : Inv prog w g ρ₁ H₁ h') (hi' : H₁[i]? = some o)
    (hq : (∃ kvs, o = .dictI kvs) → q = true) : SrcAt h'.toHeap o a it k := by
  have kp : ∀ ob, h.get? it = some ob → h'.get? it = some ob := fun ob e => S.pres it ob e hit hP
  cases o with
  | list ys => obtain ⟨ob, e, r⟩ := X; exact ⟨ob, kp _ e, r⟩
  | tuple ys => obtain ⟨ob, e, r⟩ := X; exact ⟨ob, kp _ e, r⟩
  | dictI kvs =>
    obtain ⟨ep, ⟨ob, e, r⟩, ob2, es, e2, dd⟩ := X
    obtain ⟨t, rfl, _⟩ := S.pre
    obtain ⟨cs, ⟨ob3, es3, ep3, e3, _, d3, _, p3, _⟩, r3⟩ := I.objs i _ a hi ha
    obtain ⟨cs4, ⟨ob4, es4, ep4, e4, _, d4, _, p4, _⟩, r4⟩ := I'.objs i _ a hi' (pre_get rfl ha)
    obtain ⟨ob5, es5, ep5, e5, d5, c5⟩ := S.dm (hq ⟨kvs, rfl⟩) a (List.mem_of_getElem? ha) ob2 es ep e2 dd
    rw [e2] at e3; cases e3
    rw [dd] at d3; cases d3
    rw [e5] at e4; cases e4
    rw [d5] at d4
    obtain ⟨rfl, rfl⟩ := Data.dict.inj d4
    have n1 : es.size = kvs.length := by rw [r3.length, ← p3.length]; simp
    have n2 : es5.size = kvs.length := by rw [r4.length, ← p4.length]; simp
    have : ep = ep5 := by rcases c5 with c5 | c5 <;> lia
    subst this
    exact ⟨ep, ⟨ob, kp _ e, r⟩, _, _, e5, d5⟩
  | range lo hi' => exact kp _ X
  | dictS kvs => exact X.elim
  | dictT kvs => exact X.elim
  | inst C dd => exact X.elim
  | attrs kvs => exact X.elim
end
end Mine
end
section
open PySem PySem.W PyProof.Rows
set_option maxRecDepth 100000
namespace Mine
section
variable (prog : Program) (w : World) (g : HX) (qt : Bool) (d : Nat)
inductive APost (sc : Scope) (env : Env) (ρ : List Addr) (h : Heap) (Q : Loc → Hp → Prop) (s' : Shared) : Prop
  | mk (m' : Loc) (H' : Hp) (ρ' : List Addr) (q : Q m' H') (r : ER g sc env m' ρ' s'.heap) (i : Inv prog w g ρ' H' (hxs s')) (t : Step (own env) qt ρ ρ' h s'.heap) : APost sc env ρ h Q s'
inductive RPost (env : Env) (ρ : List Addr) (h : Heap) (Q : V → Hp → Prop) (c : Value) (s' : Shared) : Prop
  | mk (v : V) (H' : Hp) (ρ' : List Addr) (q : Q v H') (r : VR ρ' v c) (i : Inv prog w g ρ' H' (hxs s')) (t : Step (own env) qt ρ ρ' h s'.heap) : RPost env ρ h Q c s'
noncomputable def FPost (sc : Scope) (env : Env) (ρ : List Addr) (h : Heap) (kn : Loc → Hp → Prop) (kr : V → Hp → Prop) (kc : Loc → Hp → Prop) (f : Flow) (s' : Shared) : Prop := match f with
  | .next => APost prog w g qt sc env ρ h kn s'
  | .cont => APost prog w g qt sc env ρ h kc s'
  | .ret c => RPost prog w g qt env ρ h kr c s'
  | .brk => False
structure SOps (r : Ops) : Prop where
  ev : ∀ sc e m H Q env A s E ρ, r.ev sc e m H Q → OkB d A → ER g sc env m ρ s.heap → Inv prog w g ρ H (hxs s) → wpAny (model prog w) A (eval e env) (EPost prog w g qt ρ s.heap Q) E s
  ts : ∀ sc e m H Q env A s E ρ, r.ts sc e m H Q → OkB d A → ER g sc env m ρ s.heap → Inv prog w g ρ H (hxs s) → wpAny (model prog w) A (isTrue e env (eval e env)) (BPost prog w g qt ρ s.heap Q) E s
  asg : ∀ sc t v c m H Q env A s E ρ, r.asg sc t v m H Q → OkB d A → ER g sc env m ρ s.heap → Inv prog w g ρ H (hxs s) → VR ρ v c → wpAny (model prog w) A (assign t env c) (fun _ => APost prog w g qt sc env ρ s.heap Q) E s
  ex : ∀ sc b m H kn kr kc env A s E ρ, r.ex sc b m H kn kr kc → OkB d A → ER g sc env m ρ s.heap → Inv prog w g ρ H (hxs s) → wpAny (model prog w) A (exec b env) (FPost prog w g qt sc env ρ s.heap kn kr kc) E s
  use : ∀ sc elt gens scope pos x px m H Q env A s E ρ, r.ev sc (.ListComp elt gens scope pos) m H (fun v H1 => Q ((x, v) :: m) H1) → isLoc sc x = true → OkB d A → ER g sc env m ρ s.heap → Inv prog w g ρ H (hxs s) →
    wpAny (model prog w) A (evalThenUse (.ListComp elt gens scope pos) env (assign (.Name x px) env)) (fun _ => APost prog w g qt sc env ρ s.heap Q) E s
end

section
variable {prog : Program} {w : World} {g : HX} {qt : Bool} {d : Nat} {K : Frag} {T : Tabs} {A : Around} {E : Value → Shared → Prop} {s : Shared} {ρ ρ₁ : List Addr} {H H₁ : Hp} {P : Addr → Prop} {sc : Scope} {env : Env} {m : Loc} {r : Ops}

theorem APost.after {h h₁ : Heap} {Q : Loc → Hp → Prop} {s' : Shared} (S : Step (own env) qt ρ ρ₁ h h₁) (x : APost prog w g qt sc env ρ₁ h₁ Q s') : APost prog w g qt sc env ρ h Q s' := by obtain ⟨m', H', ρ', q, R, i, t⟩ := x; exact ⟨m', H', ρ', q, R, i, S.trans t⟩
theorem FPost.after {h h₁ : Heap} {kn kr kc} {f : Flow} {s' : Shared} (S : Step (own env) qt ρ ρ₁ h h₁) (x : FPost prog w g qt sc env ρ₁ h₁ kn kr kc f s') : FPost prog w g qt sc env ρ h kn kr kc f s' := by
  cases f with
  | next => exact APost.after S x
  | cont => exact APost.after S x
  | ret c => obtain ⟨v, H', ρ', q, r, i, t⟩ := x; exact ⟨v, H', ρ', q, r, i, S.trans t⟩
  | brk => exact x

/-! ## names -/
theorem cls_local {x : Str} (R : ER g sc env m ρ s.heap) (h : sc.names.lookup x = some .local) : env.kindOf x = some .local := by
  have := R.cls x; rw [h] at this
  cases hk : env.kindOf x with
  | none => rw [hk] at this; cases this
  | some k => rw [hk] at this; cases k <;> first | rfl | cases this
theorem cls_glob {x : Str} (R : ER g sc env m ρ s.heap) (h : sc.names.lookup x = some .globalImplicit) : env.kindOf x = some .globalImplicit := by
  have := R.cls x; rw [h] at this
  cases hk : env.kindOf x with
  | none => rw [hk] at this; cases this
  | some k => rw [hk] at this; cases k <;> first | rfl | cases this
theorem cls_cell {x : Str} (R : ER g sc env m ρ s.heap) (h : clsK (sc.names.lookup x) = 2) : env.kindOf x = some .cell ∨ env.kindOf x = some .free := by
  have := R.cls x; rw [h] at this
  cases hk : env.kindOf x with
  | none => rw [hk] at this; cases this
  | some k => rw [hk] at this; cases k <;> first | exact .inl rfl | exact .inr rfl | cases this
theorem okName_d {x : Str} (h : okName x = true) : (x == ("__debug__" : Str)) = false ∧ (x == ("__classdict__" : Str)) = false := by
  unfold okName at h
  simp only [Bool.and_eq_true, Bool.not_eq_true'] at h
  exact h
theorem name_local {x : Str} {v : V} {pos : Pos} {Q : V → Hp → Prop} (R : ER g sc env m ρ s.heap) (I : Inv prog w g ρ H (hxs s)) (hx : okName x = true) (hs : sc.names.lookup x = some .local) (hm : m.lookup x = some v) (q : Q v H) :
    wpAny (model prog w) A (eval (.Name x pos) env) (EPost prog w g qt ρ s.heap Q) E s := by
  obtain ⟨mL, hn, hv⟩ := R.ns
  have hk := cls_local R hs
  obtain ⟨c, hc, hr⟩ := hv x v hk hm
  exact wpAny_Name (wpAny_loadName_local R.kind hk hn hc ⟨v, H, ρ, q, hr, I, .refl⟩) (okName_d hx).1
theorem name_cell {x : Str} {v : V} {pos : Pos} {Q : V → Hp → Prop} (R : ER g sc env m ρ s.heap) (I : Inv prog w g ρ H (hxs s)) (hx : okName x = true) (hs : clsK (sc.names.lookup x) = 2) (hm : m.lookup x = some v) (q : Q v H) :
    wpAny (model prog w) A (eval (.Name x pos) env) (EPost prog w g qt ρ s.heap Q) E s := by
  obtain ⟨c, hc, _, _, _, ov, hcell, hv⟩ := R.cells x (by rw [R.cls, hs])
  obtain ⟨cv, rfl, hr⟩ := hv v hm
  refine wpAny_Name ?_ (okName_d hx).1
  rcases cls_cell R hs with hk | hk
  · exact wpAny_loadName_cell R.kind hk hc hcell ⟨v, H, ρ, q, hr, I, .refl⟩
  · exact wpAny_loadName_free R.kind hk hc hcell ⟨v, H, ρ, q, hr, I, .refl⟩ (okName_d hx).2
theorem name_static {x : Str} {v : Value} {pos : Pos} {Q : Value → Shared → Prop} (W : Wd w K g T) (R : ER g sc env m ρ s.heap) (I : Inv prog w g ρ H (hxs s)) (hx : okName x = true) (hs : sc.names.lookup x = some .globalImplicit) (hv : statOf T x = some v) (q : Q v s) :
    wpAny (model prog w) A (eval (.Name x pos) env) Q E s := by
  obtain ⟨p, loose, mg, mb, top⟩ := W.top
  have t := top.keeps I.stays
  have X := W.X.keeps I.stays
  refine PySem.Calls.Name_function_global R.kind (cls_glob R hs) ?_ (okName_d hx).1
  unfold statOf at hv
  split at hv
  · rename_i v' hg
    cases hv
    exact PySem.Calls.loadGlobal_global (by rw [R.glob]; exact t.g) (mg_of X t.g (W.ok.glob _ _ hg)) q
  · obtain ⟨b1, b2, b3⟩ := W.ok.blt _ _ hv
    exact PySem.Calls.loadGlobal_builtin (by rw [R.glob]; exact t.g) (mg_none_of X t.g b1) (by rw [R.blt]; exact t.b) ((t.builtins x b3).trans b2) q

/-- what keeps a callee while its arguments are made -/
noncomputable def keptOk (K : Frag) (f : Value) : Prop := (∀ a, f ≠ .ref a) ∨ keepIn K f = true
theorem keptOk.looks {f : Value} (h : keptOk K f) {h₀ : Heap} (X : K.In h₀) : ∃ k, (k = Keeper.frame ∨ k = Keeper.machine ∨ k = Keeper.boundFrame) ∧ Looks (model prog w) h₀ (keeperOf f) k := by
  rcases h with h | h
  · refine ⟨.machine, .inr (.inl rfl), ?_⟩
    cases f <;> first | exact .now | exact absurd rfl (h _)
  · exact keeps_K h h₀ X
theorem kept_stat {x : Str} {v : Value} (W : Wd w K g T) (hv : statOf T x = some v) : keptOk K v := by
  unfold statOf at hv
  split at hv
  · rename_i v' hg
    cases hv
    obtain ⟨a, rfl, h⟩ := W.ok.globk _ _ hg
    exact .inr h
  · exact .inl (W.ok.bltk _ _ hv)
theorem kept_meth {o : V} {c : Value} {n : Str} {mt : Mth} (W : Wd w K g T) (h : methOf T H o n = some mt) : keptOk K (mthIs mt c).1 := by
  cases mt with
  | fn a =>
    refine .inr ?_
    unfold methOf at h
    split at h
    · split at h
      · split at h
        · split at h
          · split at h
            · rename_i t ht
              cases h
              exact (W.ok.meth _ (List.mem_of_find?_eq_some ht)).2.2.2
            · cases h
          · cases h
        · cases h
      · split at h
        · cases h
        · split at h
          · cases h
          · split at h <;> cases h
      · split at h
        · cases h
        · split at h <;> cases h
      · cases h
    · cases h
  | _ => exact .inl (fun a => by simp [mthIs])

/-! ## lists of expressions -/
theorem noStar_cons {e : PySem.Expr} {es : List PySem.Expr} (h : noStar (e :: es) = true) : (∀ e' p, e ≠ .Starred e' p) ∧ noStar es = true := by
  unfold noStar at h ⊢
  rw [List.all_cons, Bool.and_eq_true] at h
  refine ⟨fun e' p q => ?_, h.2⟩
  subst q; cases h.1
theorem star_cons {e : PySem.Expr} {es : List PySem.Expr} (h : noStar (e :: es) = true) : starEach (e :: es) env = (false, eval e env) :: starEach es env := by
  have := (noStar_cons h).1
  cases e <;> first | rfl | exact absurd rfl (this _ _)
theorem evs_sound (S : SOps prog w g qt d r) (hA : OkB d A) {pos : Pos} : ∀ (es : List PySem.Expr) {H : Hp} {Q : List V → Hp → Prop} {s : Shared} {ρ : List Addr}, noStar es = true → evs r sc es m H Q → ER g sc env m ρ s.heap → Inv prog w g ρ H (hxs s) →
    wpAny (model prog w) A (spliced (backTo pos (starEach es env))) (LPost prog w g qt ρ s.heap fun vs H' => Q vs H' ∧ vs.length = es.length) E s
  | [], H, Q, s, ρ, _, h, _, I => spliced_none ⟨[], H, ρ, ⟨h, rfl⟩, .nil, I, .refl⟩
  | e :: es, H, Q, s, ρ, hn, h, R, I => by
    refine spliced_more (wpAny_mono (S.ev sc e m H _ env A s E ρ h hA R I) (fun c s1 h1 => ?_) fun _ _ x => x) (star_cons hn)
    obtain ⟨v, H1, ρ1, h1, hr, I1, S1⟩ := h1
    refine wpAny_mono (evs_sound S hA es (noStar_cons hn).2 h1 (R.step S1) I1) (fun cs s2 h2 => ?_) fun _ _ x => x
    obtain ⟨vs, H2, ρ2, ⟨h2, hl⟩, hrs, I2, S2⟩ := h2
    obtain ⟨t, ht, _⟩ := S2.pre
    exact ⟨v :: vs, H2, ρ2, ⟨h2, by simp [hl]⟩, .cons (hr.mono ht) hrs, I2, S1.trans S2⟩

/-- a callee that stands, its arguments made, the call -/
theorem callWith_sound (W : Wd w K g T) (S : SOps prog w g qt d r) (hA : OkB d A) {pos : Pos} {f : Value} {first : List Value} {es : List PySem.Expr} {Q : List V → Hp → Prop} {R' : Value → Shared → Prop} (hf : keptOk K f) (hn : noStar es = true) (h : evs r sc es m H Q)
    (R : ER g sc env m ρ s.heap) (I : Inv prog w g ρ H (hxs s)) (q : ∀ vs cs H1 ρ1 (s1 : Shared), Q vs H1 → VRs ρ1 vs cs → Inv prog w g ρ1 H1 (hxs s1) → Step nobody qt ρ ρ1 s.heap s1.heap → wpAny (model prog w) A (call f (first ++ cs)) R' E s1) :
    wpAny (model prog w) A (callWith pos f first (backTo pos (starEach es env)) []) R' E s := by
  have key := evs_sound (E := E) S hA (pos := pos) es hn h R I
  have X := W.X
  refine callWith_of (P := fun h => K.In h) ?_ (fun h X => hf.looks X) ?_
  · have : ∀ es : List PySem.Expr, noStar es = true → (backTo pos (starEach es env)).any (·.1) = false := by
      intro es
      induction es with
      | nil => intro _; rfl
      | cons e es ih => intro hn; rw [star_cons hn]; exact ih (noStar_cons hn).2
    rw [this es hn]; rfl
  · cases es with
    | nil => exact evalArgs_nil3 ⟨X.keeps I.stays, q [] [] H ρ s h .nil I .refl⟩
    | cons e es =>
      rw [star_cons hn] at key ⊢
      refine PySem.Calls.evalArgs_plain (wpAny_mono key (fun cs s1 h1 => ?_) fun _ _ x => x)
      obtain ⟨vs, H1, ρ1, ⟨h1, _⟩, hr, I1, S1⟩ := h1
      exact ⟨X.keeps I1.stays, q vs cs H1 ρ1 s1 h1 hr I1 S1⟩
end
end Mine
end
section
open PySem PySem.W PyProof.Rows
set_option maxRecDepth 100000
namespace Mine
section
variable {prog : Program} {w : World} {g : HX} {qt : Bool} {d : Nat} {K : Frag} {T : Tabs} {A : Around} {E : Value → Shared → Prop} {s : Shared} {ρ ρ₁ : List Addr} {H H₁ : Hp} {P : Addr → Prop} {sc : Scope} {env : Env} {m : Loc} {r r' : Ops} {cl : CallOp} {up : Bool}

theorem brB_pos {c : Bool} {X : Prop} (h : brB c X False) : c = true ∧ X := by cases c <;> first | exact h.elim | exact ⟨rfl, h⟩
theorem brB_neg {c : Bool} {X : Prop} (h : brB c False X) : c = false ∧ X := by cases c <;> first | exact h.elim | exact ⟨rfl, h⟩
theorem brB_if {c : Bool} {X Y : Prop} (h : brB c X Y) : if c = true then X else Y := by cases c <;> exact h

theorem bin_sound {op : Operator} {u v : V} {a b : Value} {Q : V → Hp → Prop} (I : Inv prog w g ρ H (hxs s)) (ra : VR ρ u a) (rb : VR ρ v b) (h : binV op u v H Q) : wpAny (model prog w) A (binaryOp op a b) (EPost prog w g qt ρ s.heap Q) E s := by
  unfold binV at h
  split at h
  · obtain ⟨t, rfl⟩ := ra
    obtain ⟨t', rfl⟩ := rb
    exact bin_int I h
  · split at h
    · obtain ⟨xs, e1, h⟩ := onO_some h
      obtain ⟨ys, e2, h⟩ := onO_some h
      exact add_sound I e1 e2 ra rb h.1 h.2
    · exact h.elim
theorem cmp_sound {op : CmpOp} {u v : V} {a b : Value} {Q : Bool → Hp → Prop} (hm : ∃ o, g.get? sysModules = some o) (hA : OkB d A) (I : Inv prog w g ρ H (hxs s)) (ra : VR ρ u a) (rb : VR ρ v b) (h : cmpV op u v H fun c => Q c H) :
    wpAny (model prog w) A (compareOp op a b) (fun v s' => ∃ c, v = .bool c ∧ BPost prog w g qt ρ s.heap Q c s') E s := by
  have num : (∃ x y, u = .int x ∧ v = .int y) ∨ (∃ x y, u = .str x ∧ v = .str y) ∨ op = .In ∨ op = .NotIn := by
    cases op <;> simp only [cmpV] at h <;> first | exact .inr (.inr (.inl rfl)) | exact .inr (.inr (.inr rfl)) | skip
    all_goals first
      | exact h.elim
      | (split at h <;> first | exact h.elim | exact .inl ⟨_, _, rfl, rfl⟩ | exact .inr (.inl ⟨_, _, rfl, rfl⟩))
  rcases num with ⟨x, y, rfl, rfl⟩ | ⟨x, y, rfl, rfl⟩ | hop
  · obtain ⟨t, rfl⟩ := ra
    obtain ⟨t', rfl⟩ := rb
    exact cmp_int I h
  · obtain ⟨t, rfl⟩ := ra
    obtain ⟨t', rfl⟩ := rb
    exact cmp_str I h
  · exact cmp_has hop hm (by have := hA.2.2.1; lia) I ra rb h

/-- one made earlier, in the heap but known to nobody, is taken in late -/
theorem EPost.late {h : HX} {s' : Shared} {ρ₁ : List Addr} {H₁ : Hp} {o : O} {D : Addr} {Q : V → Hp → Prop} (I0 : Inv prog w g ρ H h) (S : Step nobody qt ρ ρ₁ h.toHeap s'.heap) (I1 : Inv prog w g ρ₁ H₁ (hxs s')) (hD : h.get? D = none) (hn : D ∉ ρ₁)
    (ho : OR prog w (ρ₁ ++ [D]) (H₁ ++ [o]) s'.heap o D) (q : newO H₁ o Q) : EPost prog w g qt ρ h.toHeap Q (.ref D) s' := by
  obtain ⟨t, ht, htn⟩ := S.pre
  refine ⟨_, _, ρ₁ ++ [D], q, ⟨D, ?_, rfl⟩, I1.push hn (I0.gfree hD) ho, ⟨⟨t ++ [D], by rw [ht, List.append_assoc], fun b hb => ?_⟩, S.pres, S.live, S.dm⟩⟩
  · rw [← I1.len]; simp
  · rcases List.mem_append.mp hb with h1 | h1
    · exact htn b h1
    · rw [List.mem_singleton.mp h1]; exact hD

/-! ## dict displays -/
noncomputable def PPost (prog : Program) (w : World) (g : HX) (qt : Bool) (ρ : List Addr) (h : Heap) (Q : List (V × V) → Hp → Prop) (cs : List (Value × Value)) (s' : Shared) : Prop :=
  ∃ ps H' ρ', Q ps H' ∧ VRs ρ' (ps.map (·.1)) (cs.map (·.1)) ∧ VRs ρ' (ps.map (·.2)) (cs.map (·.2)) ∧ Inv prog w g ρ' H' (hxs s') ∧ Step nobody qt ρ ρ' h s'.heap
theorem pairs_sound (S : SOps prog w g qt d r) (hA : OkB d A) {pos : Pos} (ks : List (Option PySem.Expr)) (vs : List PySem.Expr) {H : Hp} {Q : List (V × V) → Hp → Prop} {s : Shared} {ρ : List Addr} (h : evPairs r sc ks vs m H Q) (R : ER g sc env m ρ s.heap) (I : Inv prog w g ρ H (hxs s)) :
    wpAny (model prog w) A (evalPairs (pairTrees ks vs env pos)) (PPost prog w g qt ρ s.heap Q) E s := by
  induction ks generalizing vs H Q s ρ with
  | nil =>
    cases vs with
    | nil => exact pairTrees_nil_walk ⟨[], H, ρ, h, .nil, .nil, I, .refl⟩
    | cons => exact h.elim
  | cons k ks ih =>
    cases k with
    | none => cases vs <;> exact h.elim
    | some k =>
      cases vs with
      | nil => exact h.elim
      | cons v vs =>
        refine pairTrees_cons_walk (wpAny_mono (S.ev sc k m H _ env A s E ρ h hA R I) (fun c s1 h1 => ?_) fun _ _ x => x)
        obtain ⟨kv, H1, ρ1, h1, hr1, I1, S1⟩ := h1
        refine wpAny_mono (S.ev sc v m H1 _ env A s1 E ρ1 h1 hA (R.step S1) I1) (fun c2 s2 h2 => ?_) fun _ _ x => x
        obtain ⟨vv, H2, ρ2, h2, hr2, I2, S2⟩ := h2
        refine wpAny_mono (ih vs h2 ((R.step S1).step S2) I2) (fun cs s3 h3 => ?_) fun _ _ x => x
        obtain ⟨ps, H3, ρ3, h3, ra, rb, I3, S3⟩ := h3
        obtain ⟨t, ht, _⟩ := S2.pre
        obtain ⟨t', ht', _⟩ := S3.pre
        exact ⟨(kv, vv) :: ps, H3, ρ3, h3, .cons ((hr1.mono ht).mono ht') ra, .cons (hr2.mono ht') rb, I3, (S1.trans S2).trans S3⟩
theorem carriesI {ρ : List Addr} {ps : List (V × V)} {cs : List (Value × Value)} {l : List (Int × V)} (h : pairsI? ps = some l) (ra : VRs ρ (ps.map (·.1)) (cs.map (·.1))) (rb : VRs ρ (ps.map (·.2)) (cs.map (·.2))) : ∃ kvs, Carries (intKind prog w) cs kvs ∧ KR ρ l kvs := by
  induction ps generalizing cs l with
  | nil =>
    cases cs with
    | nil => cases h; exact ⟨[], trivial, .nil⟩
    | cons => cases ra
  | cons p ps ih =>
    cases cs with
    | nil => cases ra
    | cons c cs =>
      cases ra with | cons ha ra =>
      cases rb with | cons hb rb =>
      obtain ⟨kv, vv⟩ := p
      cases kv with
      | int k =>
        rw [pairsI?] at h
        cases hl : pairsI? ps with
        | none => rw [hl] at h; cases h
        | some l' =>
          rw [hl] at h; cases h
          obtain ⟨kvs, x, y⟩ := ih hl ra rb
          obtain ⟨t, e⟩ := ha
          obtain ⟨c, c2⟩ := c
          cases e
          exact ⟨(k, c2) :: kvs, ⟨intKind_is prog w k t, rfl, x⟩, .cons hb y⟩
      | _ => cases h
theorem carriesS {ρ : List Addr} {ps : List (V × V)} {cs : List (Value × Value)} {l : List (Str × V)} (h : pairsS? ps = some l) (ra : VRs ρ (ps.map (·.1)) (cs.map (·.1))) (rb : VRs ρ (ps.map (·.2)) (cs.map (·.2))) : ∃ kvs, Carries (strKind prog w) cs kvs ∧ KR ρ l kvs := by
  induction ps generalizing cs l with
  | nil =>
    cases cs with
    | nil => cases h; exact ⟨[], trivial, .nil⟩
    | cons => cases ra
  | cons p ps ih =>
    cases cs with
    | nil => cases ra
    | cons c cs =>
      cases ra with | cons ha ra =>
      cases rb with | cons hb rb =>
      obtain ⟨kv, vv⟩ := p
      cases kv with
      | str k =>
        rw [pairsS?] at h
        cases hl : pairsS? ps with
        | none => rw [hl] at h; cases h
        | some l' =>
          rw [hl] at h; cases h
          obtain ⟨kvs, x, y⟩ := ih hl ra rb
          obtain ⟨t, e⟩ := ha
          obtain ⟨c, c2⟩ := c
          cases e
          exact ⟨(k, c2) :: kvs, ⟨strKind_is prog w k t, rfl, x⟩, .cons hb y⟩
      | _ => cases h
theorem nodupB_spec : ∀ {l : List Str}, nodupB l = true → l.Nodup
  | [], _ => .nil
  | x :: r, h => by
    simp only [nodupB, Bool.and_eq_true, Bool.not_eq_true', List.contains_eq_mem, decide_eq_false_iff_not] at h
    exact List.nodup_cons.mpr ⟨h.1, nodupB_spec h.2⟩
theorem merged_nodup {κ : Type} [DecidableEq κ] : ∀ {l acc : List (κ × Value)}, ((acc ++ l).map (·.1)).Nodup → merged acc l = acc ++ l
  | [], acc, _ => by (first | exact (List.append_nil _).symm | simp [merged])
  | (k, v) :: r, acc, h => by
    have hk : acc.any (fun kv => decide (kv.1 = k)) = false := by
      rw [List.any_eq_false]
      intro kv hkv
      simp only [decide_eq_true_eq]
      intro e
      simp only [List.map_append, List.map_cons] at h
      exact (List.nodup_append.mp h).2.2 _ (List.mem_map.mpr ⟨kv, hkv, e⟩) _ (List.mem_cons_self ..) rfl
    show merged (PySem.stored acc k v) r = _
    rw [PySem.stored, if_neg (by rw [hk]; exact Bool.false_ne_true), merged_nodup (by simpa using h)]
    simp
theorem dict_display {K' : Type} [DecidableEq K'] {knd : KeyKind prog w K'} (S : SOps prog w g qt d r) (hA : OkB d A) {ks : List (Option PySem.Expr)} {vs : List PySem.Expr} {pos : Pos} {Q : V → Hp → Prop} {F : List (V × V) → Hp → Prop}
    (h1 : ks.all (·.isSome) = true) (h2 : ks.length = vs.length) (h3 : ks.length < 15) (h0 : ks ≠ []) (h : evPairs r sc ks vs m H F) (R : ER g sc env m ρ s.heap) (I : Inv prog w g ρ H (hxs s))
    (q : ∀ ps cs H1 ρ1, F ps H1 → VRs ρ1 (ps.map (·.1)) (cs.map (·.1)) → VRs ρ1 (ps.map (·.2)) (cs.map (·.2)) → ∃ kvs o, Carries knd cs kvs ∧ newO H1 o Q ∧ ∀ h' D, h'.DictOf knd D (merged [] kvs) → OR prog w (ρ1 ++ [D]) (H1 ++ [o]) h' o D) :
    wpAny (model prog w) A (eval (.Dict ks vs pos) env) (EPost prog w g qt ρ s.heap Q) E s := by
  have hk : ∀ b o, s.heap.get? b = some o → (s.heap.push { cls := .type "dict", data := .dict #[] }).get? b = some o := fun b o e => Heap.get?_push_of_some _ e
  have I' : Inv prog w g ρ H ⟨s.heap.push { cls := .type "dict", data := .dict #[] }, s.os, s.gens⟩ := I.all hk
  have S0 : Step nobody qt ρ ρ s.heap (s.heap.push { cls := .type "dict", data := .dict #[] }) := Step.keeps hk
  have hnew : s.heap.get? s.heap.objs.size = none := none_ge (Nat.le_refl _)
  refine wpAny_Dict_walk (knd := knd) h1 h2 h0 (by (first | exact Nat.le_of_lt (by assumption) | lia)) (wpAny_mono (pairs_sound (s := { s with heap := s.heap.push { cls := .type "dict", data := .dict #[] } }) S hA ks vs h (R.step S0) I') (fun cs s1 x => ?_) fun _ _ x => x)
  obtain ⟨ps, H1, ρ1, f, ra, rb, I1, S1⟩ := x
  obtain ⟨kvs, o, hc, hq, ho⟩ := q ps cs H1 ρ1 f ra rb
  have hD : s.heap.objs.size ∉ ρ := fresh_not I hnew
  have hD1 : s.heap.objs.size ∉ ρ1 := fun z => hD (S1.mem z (Heap.get?_push_size _ rfl))
  refine ⟨kvs, hc, ?_, fun h' hd hs => ?_⟩
  · have e := S1.pres _ _ (Heap.get?_push_size s.heap rfl) hD (fun z => z)
    obtain ⟨o', es, ep, e', r'⟩ := Heap.DictOf.new (knd := knd) s.heap
    have : o' = { cls := .type "dict", data := .dict #[] } := by
      rw [Heap.get?_push_size _ (by rfl)] at e'; cases e'; rfl
    subst this
    exact ⟨_, es, ep, e, r'⟩
  · have S2 := (S0.trans S1).off (Z := fun b => b = s.heap.objs.size) (h₂ := h') (fun b z => z ▸ hnew) fun b ob hb e => (hs.2 b hb).trans e
    have I2 := I1.off (h₂ := ⟨h', s1.os, s1.gens⟩) (Z := fun b => b = s.heap.objs.size) I (fun b z => z ▸ hnew) (fun b z => z ▸ hD1) fun b ob hb e => (hs.2 b hb).trans e
    exact EPost.late (s' := { s1 with heap := h', toks := s1.toks + cs.length }) I S2 I2 hnew hD1 (ho _ _ hd) hq
end
end Mine
end
section
open PySem PySem.W PyProof.Rows
set_option maxRecDepth 100000
namespace Mine
section
variable {prog : Program} {w : World} {g : HX} {qt : Bool} {d : Nat} {K : Frag} {T : Tabs} {A : Around} {E : Value → Shared → Prop} {s : Shared} {ρ ρ₁ : List Addr} {H H₁ : Hp} {P : Addr → Prop} {sc : Scope} {env : Env} {m : Loc} {r r' : Ops} {cl : CallOp} {up : Bool}

theorem base_of {o : PySem.Expr} (h : notSuper o = true) (n : Str) (env : Env) (x : Sem Value) : attributeBase o n env x = x := by
  cases o <;> first | rfl | skip
  rename_i f as ks p
  cases f <;> first | rfl | cases h
theorem form_of : ∀ {as : List PySem.Expr} {pos : Pos} {env : Env}, noStar as = true → (backTo pos (starEach as env)).all (fun x => !x.1) = true
  | [], _, _, _ => rfl
  | e :: es, pos, env, h => by rw [star_cons h]; exact form_of (noStar_cons h).2
theorem call_meth {o : PySem.Expr} {n : Str} {ap pos : Pos} {as : List PySem.Expr} (h1 : notSuper o = true) (h2 : shortCall as ap pos = true) : ∃ pl, eval (.Call (.Attribute o n ap) as [] pos) env = (do
      let ov ← eval o env
      standAt ap.atName
      let (f, first) ← holding [ov] (getMethod ov n pl)
      callWith pos f first (backTo pos (starEach as env)) []) := by
  unfold shortCall at h2
  simp only [Bool.and_eq_true, decide_eq_true_eq, beq_iff_eq] at h2
  obtain ⟨⟨a, b⟩, c⟩ := h2
  refine ⟨do return (← importBound o env).getD true, ?_⟩
  have hf : methodCallForm (as.length + ([] : List Keyword).length) (backTo pos (starEach as env)) (backToKw pos (keywordEach [] env)) = true := by
    unfold methodCallForm
    rw [form_of a]
    have : (backToKw pos (keywordEach [] env)) = [] := rfl
    rw [this]
    simp only [List.all_nil, Bool.and_self, List.isEmpty_nil, if_true, Bool.true_and, List.length_nil, decide_eq_true_eq]
    (first | exact Nat.le_succ_of_le (by assumption) | lia)
  show (do
    let ov ← attributeBase o n env (eval o env)
    standAt ap.atName
    methodCall o n ap pos env ov (as.length + ([] : List Keyword).length) (backTo pos (starEach as env)) (backToKw pos (keywordEach [] env))) = _
  rw [base_of h1]
  unfold methodCall
  rw [hf]
  unfold calleeOf methodCallPos
  have hc : (ap.endLine == pos.line) = true := by rw [c]; exact beq_self_eq_true _
  simp only [if_true, Bool.not_true, hc, Bool.or_true]
  rfl

theorem slice_sound (W : Wd w K g T) (S : SOps prog w g qt d r) (hA : OkB d A) {o : PySem.Expr} {u : Int} {k : Nat} {p q' pos : Pos} {Q : V → Hp → Prop} (hn : isName o = true) (hu : 0 ≤ u) (R : ER g sc env m ρ s.heap) (I : Inv prog w g ρ H (hxs s))
    (h : r.ev sc o m H fun v H1 => onO (roOf T v) fun xs => xs.length < lim ∧ newO H1 (.list ((xs.map V.int).take u.toNat)) Q) : wpAny (model prog w) A (eval (.Subscript o (.Slice .none (some (.Constant (.int u) k p)) .none q') pos) env) (EPost prog w g qt ρ s.heap Q) E s := by
  have hl : lim = 1048576 := rfl
  have hz := sizeLine_eq
  refine wpAny_Subscript_list_slice (wpAny_mono (S.ev sc o m H _ env A s E ρ h hA R I) (fun c s1 x => ?_) fun _ _ x => x) (by cases o <;> first | (intro _ _; rfl) | cases hn)
  obtain ⟨v, H1, ρ1, x, hr, I1, S1⟩ := x
  obtain ⟨l, hx, hlen, hq⟩ := onO_some x
  obtain ⟨a, cs, rfl, e0, rr⟩ : ∃ a cs, c = .ref a ∧ g.toHeap.IsList a cs.toArray ∧ ∀ ρ, VRs ρ (l.map V.int) cs := by
    unfold roOf at hx
    split at hx
    · have hr : c = _ := hr; subst hr; exact W.ro _ _ hx
    · cases hx
  have rr := rr ρ1
  have e : s1.heap.IsList a cs.toArray := by obtain ⟨o, e1, e2⟩ := e0; exact ⟨o, I1.stays _ _ e1, e2⟩
  have h1 := rr.length
  rw [List.length_map] at h1
  rw [evalPart_none]
  refine wpAny_pure ?_
  rw [evalPart_some]
  refine wpAny_Constant_int ?_
  refine ⟨a, cs.toArray, .none, some u, rfl, e, by simp only [List.size_toArray]; lia, .none, .int _ _, ?_⟩
  refine EPost.after S1 (EPost.new (o := O.list ((l.map V.int).take u.toNat)) I1 (fun b ob e => Heap.get?_push_of_some _ (Heap.get?_push_of_some _ e)) (none_ge (Nat.le_succ _)) ⟨cs.take u.toNat, 0, ?_, (rr.mono rfl).take _⟩ hq)
  have := Heap.get?_push_size (s1.heap.push { cls := .type "slice", data := .fields #[.none, .int u s1.toks, .none] }) (o := { cls := .type "list", data := .seq (slicePick cs.toArray .none (some u) .none) }) rfl
  rw [Heap.size_push] at this
  rw [this]
  have e2 : slicePick cs.toArray .none (some u) .none = (cs.take u.toNat).toArray := by
    have := slicePick_upto' cs.toArray u.toNat
    rw [Int.toNat_of_nonneg hu] at this
    simpa using this
  rw [e2]

theorem dict_ev (S : SOps prog w g qt d r) {ks : List (Option PySem.Expr)} {vs : List PySem.Expr} {pos : Pos} {Q : V → Hp → Prop} (h : evStep T cl up r r' sc (.Dict ks vs pos) m H Q) (hA : OkB d A) (R : ER g sc env m ρ s.heap) (I : Inv prog w g ρ H (hxs s)) : wpAny (model prog w) A (eval (.Dict ks vs pos) env) (EPost prog w g qt ρ s.heap Q) E s := by
    cases ks with
    | nil =>
      cases vs with
      | nil =>
        refine wpAny_Dict_empty ?_
        rcases h with h | h
        · exact EPost.new (o := O.dictI []) I (fun b ob e => Heap.get?_push_of_some _ e) (none_ge (Nat.le_refl _)) ⟨[], Heap.DictOf.new s.heap, .nil⟩ h
        · exact EPost.new (o := O.dictT []) I (fun b ob e => Heap.get?_push_of_some _ e) (none_ge (Nat.le_refl _)) ⟨[], ⟨_, _, _, Heap.get?_push_size _ rfl, ⟨rfl, rfl, rfl⟩, rfl, rfl, (fun x hx => by cases hx), .nil⟩, .nil⟩ h
      | cons _ _ => exact h.elim
    | cons k ks =>
      obtain ⟨hc, h⟩ := brB_pos h
      simp only [Bool.and_eq_true, decide_eq_true_eq] at hc
      cases hk : (k :: ks).all strKey with
      | true =>
        rw [hk] at h
        refine dict_display (knd := strKind prog w) S hA hc.1.1 hc.1.2 hc.2 (by (first | exact List.cons_ne_nil _ _ | simp)) h R I fun ps cs H1 ρ1 f ra rb => ?_
        obtain ⟨l, hl, f⟩ := onO_some f
        obtain ⟨hn, f⟩ := brB_pos f
        obtain ⟨kvs, x, y⟩ := carriesS (prog := prog) (w := w) hl ra rb
        have hm : merged [] kvs = kvs := by
          have := merged_nodup (l := kvs) (acc := []) (by rw [List.nil_append, ← y.keys]; exact nodupB_spec hn)
          simpa using this
        exact ⟨kvs, O.dictS l, x, f, fun h' D hd => ⟨kvs, hm ▸ hd, y.mono rfl⟩⟩
      | false =>
        rw [hk] at h
        refine dict_display (knd := intKind prog w) S hA hc.1.1 hc.1.2 hc.2 (by (first | exact List.cons_ne_nil _ _ | simp)) h R I fun ps cs H1 ρ1 f ra rb => ?_
        obtain ⟨l, hl, f⟩ := onO_some f
        obtain ⟨kvs, x, y⟩ := carriesI (prog := prog) (w := w) hl ra rb
        exact ⟨kvs, O.dictI (putAll [] l), x, f, fun h' D hd => ⟨merged [] kvs, hd, (putAll_merged .nil y .nil).mono rfl⟩⟩
theorem call_ev (hm : ∃ o, g.get? sysModules = some o) (W : Wd w K g T) (C : SCall prog w g qt d cl) (hup : up = true → qt = false) (S : SOps prog w g qt d r) {f : PySem.Expr} {as : List PySem.Expr} {kws : List Keyword} {pos : Pos} {Q : V → Hp → Prop} (h : evStep T cl up r r' sc (.Call f as kws pos) m H Q) (hA : OkB d A) (R : ER g sc env m ρ s.heap) (I : Inv prog w g ρ H (hxs s)) : wpAny (model prog w) A (eval (.Call f as kws pos) env) (EPost prog w g qt ρ s.heap Q) E s := by
    cases kws with
    | nil =>
      cases f with
      | Attribute o n ap =>
        obtain ⟨hc, h⟩ := brB_pos h
        simp only [Bool.and_eq_true] at hc
        obtain ⟨pl, he⟩ := call_meth (env := env) (n := n) hc.1 hc.2
        have hns : noStar as = true := by have := hc.2; unfold shortCall at this; simp only [Bool.and_eq_true] at this; exact this.1.1
        refine MethodCall_ (pl := pl) (wpAny_mono (S.ev sc o m H _ env A s E ρ h hA R I) (fun c s1 x => ?_) fun _ _ x => x) he
        obtain ⟨u, H1, ρ1, x, hr, I1, S1⟩ := x
        obtain ⟨mt, hmt, x⟩ := onO_some x
        obtain ⟨mL, F⟩ := fr_of (R.step S1) I1
        refine getMethod_sound W ⟨_, mL, F⟩ I1 hr hmt ?_
        refine callWith_sound W S hA (kept_meth W hmt) hns x (R.step S1) I1 fun vs cs H2 ρ2 s2 x hrs I2 S2 => ?_
        obtain ⟨t, ht, _⟩ := S2.pre
        exact wpAny_mono (methV_sound hm hup C hA.ok I2 (hr.mono ht) hrs x) (fun c3 s3 x => x.after (S1.trans S2)) fun _ _ x => x
      | Name x p =>
        obtain ⟨hc, h⟩ := brB_pos h
        simp only [Bool.and_eq_true] at hc
        obtain ⟨f, hf, h⟩ := onO_some h
        have hs : sc.names.lookup x = some .globalImplicit := by
          have := hc.2; unfold isGlo at this; split at this
          · assumption
          · cases this
        refine Call_ (name_static W R I hc.1.2 hs hf ?_)
        exact callWith_sound W S hA (kept_stat W hf) hc.1.1 h R I fun vs cs H2 ρ2 s2 x hrs I2 S2 => wpAny_mono (callV_sound W hm C hA I2 hrs x) (fun c3 s3 x => x.after S2) fun _ _ x => x
      | _ => exact h.elim
    | cons _ _ => exact h.elim
theorem ev_sound (hm : ∃ o, g.get? sysModules = some o) (W : Wd w K g T) (C : SCall prog w g qt d cl) (hup : up = true → qt = false) (S : SOps prog w g qt d r)
    (comp : ∀ elt gens scope pos sc m H Q env A s E ρ, evStep T cl up r r' sc (.ListComp elt gens scope pos) m H Q → OkB d A → ER g sc env m ρ s.heap → Inv prog w g ρ H (hxs s) → wpAny (model prog w) A (eval (.ListComp elt gens scope pos) env) (EPost prog w g qt ρ s.heap Q) E s)
    (e : PySem.Expr) {Q : V → Hp → Prop} (h : evStep T cl up r r' sc e m H Q) (hA : OkB d A) (R : ER g sc env m ρ s.heap) (I : Inv prog w g ρ H (hxs s)) : wpAny (model prog w) A (eval e env) (EPost prog w g qt ρ s.heap Q) E s := by
  have hl : lim = 1048576 := rfl
  cases e with
  | Constant c k pos =>
    cases c with
    | none => exact wpAny_Constant_none ⟨.none, H, ρ, h, rfl, I, .refl⟩
    | bool b => exact wpAny_Constant_bool ⟨.bool b, H, ρ, h, rfl, I, .refl⟩
    | int i => exact wpAny_Constant_int ⟨.int i, H, ρ, h, ⟨_, rfl⟩, I, .refl⟩
    | str x => exact PySem.Calls.Constant_str ⟨.str x, H, ρ, h, ⟨_, rfl⟩, I, .refl⟩
    | _ => exact h.elim
  | Name x pos =>
    obtain ⟨hx, h⟩ := brB_pos h
    cases hs : sc.names.lookup x with
    | none => rw [hs] at h; exact h.elim
    | some nk =>
      rw [hs] at h
      cases nk with
      | «local» => obtain ⟨v, hv, q⟩ := onO_some h; exact name_local R I hx hs hv q
      | cell => obtain ⟨v, hv, q⟩ := onO_some h; exact name_cell R I hx (by rw [hs]; rfl) hv q
      | free => obtain ⟨v, hv, q⟩ := onO_some h; exact name_cell R I hx (by rw [hs]; rfl) hv q
      | globalImplicit => obtain ⟨v, hv, q⟩ := onO_some h; exact name_static W R I hx hs hv ⟨.st v, H, ρ, q, rfl, I, .refl⟩
      | _ => exact h.elim
  | BinOp a op b pos =>
    refine wpAny_BinOp (wpAny_mono (S.ev sc a m H _ env A s E ρ h hA R I) (fun c s1 x => ?_) fun _ _ x => x)
    obtain ⟨u, H1, ρ1, x, hr, I1, S1⟩ := x
    refine wpAny_mono (S.ev sc b m H1 _ env A s1 E ρ1 x hA (R.step S1) I1) (fun c2 s2 x => ?_) fun _ _ x => x
    obtain ⟨v, H2, ρ2, x, hr2, I2, S2⟩ := x
    obtain ⟨t, ht, _⟩ := S2.pre
    exact wpAny_mono (bin_sound I2 (hr.mono ht) hr2 x) (fun c3 s3 x => x.after (S1.trans S2)) fun _ _ x => x
  | UnaryOp op a pos =>
    cases op with
    | USub =>
      refine UnaryOp_ (wpAny_mono (S.ev sc a m H _ env A s E ρ h hA R I) (fun c s1 x => ?_) fun _ _ x => x)
      obtain ⟨u, H1, ρ1, x, hr, I1, S1⟩ := x
      cases u with
      | int i => obtain ⟨t, rfl⟩ := hr; exact PyProof.Rows.neg_int ⟨.int (-i), H1, ρ1, x, ⟨_, rfl⟩, I1, S1⟩
      | _ => exact x.elim
    | _ => exact h.elim
  | IfExp t a b pos =>
    refine IfExp_ (wpAny_mono (S.ts sc t m H _ env A s E ρ h hA R I) (fun c s1 x => ?_) fun _ _ x => x)
    obtain ⟨H1, ρ1, x, I1, S1⟩ := x
    cases c with
    | true => exact wpAny_mono (S.ev sc a m H1 _ env A s1 E ρ1 x hA (R.step S1) I1) (fun c3 s3 x => x.after S1) fun _ _ x => x
    | false => exact wpAny_mono (S.ev sc b m H1 _ env A s1 E ρ1 x hA (R.step S1) I1) (fun c3 s3 x => x.after S1) fun _ _ x => x
  | BoolOp op es pos =>
    cases op with
    | And => exact h.elim
    | Or =>
      cases es with | nil => exact h.elim | cons a es =>
      cases es with | nil => exact h.elim | cons b es =>
      cases es with | cons => exact h.elim | nil =>
        refine BoolOp_or (wpAny_mono (S.ev sc a m H _ env A s E ρ h hA R I) (fun c s1 x => ?_) fun _ _ x => x)
        obtain ⟨u, H1, ρ1, x, hr, I1, S1⟩ := x
        cases u with
        | bool c' =>
          cases hr
          refine wpAny_truthy_bool ?_
          cases c' with
          | true => exact ⟨.bool true, H1, ρ1, x, rfl, I1, S1⟩
          | false => exact BoolOp_one (wpAny_mono (S.ev sc b m H1 _ env A s1 E ρ1 x hA (R.step S1) I1) (fun c3 s3 x => x.after S1) fun _ _ x => x)
        | _ => exact x.elim
  | Compare a ops bs pos =>
    cases ops with | nil => exact h.elim | cons op ops =>
    cases ops with | cons => exact h.elim | nil =>
    cases bs with | nil => exact h.elim | cons b bs =>
    cases bs with | cons => exact h.elim | nil =>
      obtain ⟨hb, h⟩ := brB_neg h
      refine wpAny_Compare1 (wpAny_mono (S.ev sc a m H _ env A s E ρ h hA R I) (fun c s1 x => ?_) fun _ _ x => x) hb
      obtain ⟨u, H1, ρ1, x, hr, I1, S1⟩ := x
      refine wpAny_mono (S.ev sc b m H1 _ env A s1 E ρ1 x hA (R.step S1) I1) (fun c2 s2 x => ?_) fun _ _ x => x
      obtain ⟨v, H2, ρ2, x, hr2, I2, S2⟩ := x
      obtain ⟨t, ht, _⟩ := S2.pre
      refine wpAny_mono (cmp_sound (qt := qt) (Q := fun c H => Q (.bool c) H) hm hA I2 (hr.mono ht) hr2 x) (fun c3 s3 x => ?_) fun _ _ x => x
      obtain ⟨c, rfl, H3, ρ3, q, I3, S3⟩ := x
      exact ⟨.bool c, H3, ρ3, q, rfl, I3, (S1.trans S2).trans S3⟩
  | Attribute o n pos =>
    obtain ⟨hs, h⟩ := brB_pos h
    refine Attribute_any_ (wpAny_mono (S.ev sc o m H _ env A s E ρ h hA R I) (fun c s1 x => ?_) fun _ _ x => x) ?_
    · obtain ⟨u, H1, ρ1, x, hr, I1, S1⟩ := x
      obtain ⟨mL, F⟩ := fr_of (R.step S1) I1
      exact wpAny_mono (getAttr_sound W ⟨_, mL, F⟩ I1 hr x) (fun c3 s3 x => x.after S1) fun _ _ x => x
    · show (do
        let ov ← attributeBase o n env (eval o env)
        standAt pos.atName
        let r ← holding [ov] (getAttr ov n true)
        letTemporaryGo o ov r
        pure r) = _
      rw [base_of hs]
  | Subscript o i pos =>
    have gen : (r.ev sc o m H fun u H1 => r.ev sc i m H1 fun k H2 => gSub H2 u k Q) → wpAny (model prog w) A (eval (.Subscript o i pos) env) (EPost prog w g qt ρ s.heap Q) E s := fun h => by
      refine Subscript_ (wpAny_mono (S.ev sc o m H _ env A s E ρ h hA R I) (fun c s1 x => ?_) fun _ _ x => x)
      obtain ⟨u, H1, ρ1, x, hr, I1, S1⟩ := x
      refine wpAny_mono (S.ev sc i m H1 _ env A s1 E ρ1 x hA (R.step S1) I1) (fun c2 s2 x => ?_) fun _ _ x => x
      obtain ⟨v, H2, ρ2, x, hr2, I2, S2⟩ := x
      obtain ⟨t, ht, _⟩ := S2.pre
      exact wpAny_mono (sub_sound (by have := hA.2.2.1; lia) I2 (hr.mono ht) hr2 x) (fun c3 s3 x => x.after (S1.trans S2)) fun _ _ x => x
    have h : subStep T r sc o i m H Q := h
    unfold subStep at h
    split at h
    · obtain ⟨hc, h⟩ := brB_pos h
      simp only [Bool.and_eq_true, decide_eq_true_eq] at hc
      exact slice_sound W S hA hc.2 hc.1 R I h
    · exact gen h
  | Tuple es k pos =>
    obtain ⟨hc, h⟩ := brB_pos h
    simp only [Bool.and_eq_true, decide_eq_true_eq] at hc
    refine Tuple_ (wpAny_mono (evs_sound S hA es hc.1 h R I) (fun cs s1 x => ?_) fun _ _ x => x)
    obtain ⟨vs, H1, ρ1, ⟨q, hlen⟩, hr, I1, S1⟩ := x
    exact wpAny_mono (newTuple_sound I1 hr (by lia) q) (fun c3 s3 x => x.after S1) fun _ _ x => x
  | List es pos =>
    obtain ⟨hc, h⟩ := brB_pos h
    simp only [Bool.and_eq_true, decide_eq_true_eq] at hc
    refine List_ (wpAny_mono (evs_sound S hA es hc.1 h R I) (fun cs s1 x => ?_) fun _ _ x => x)
    obtain ⟨vs, H1, ρ1, ⟨q, hlen⟩, hr, I1, S1⟩ := x
    exact wpAny_mono (newList_sound I1 hr (by lia) q) (fun c3 s3 x => x.after S1) fun _ _ x => x
  | Dict ks vs pos => exact dict_ev S h hA R I
  | Call f as kws pos => exact call_ev hm W C hup S h hA R I
  | ListComp elt gens scope pos => exact comp elt gens scope pos sc m H Q env A s E ρ h hA R I
  | _ => exact h.elim
end
end Mine
end
section
open PySem PySem.W PyProof.Rows
set_option maxRecDepth 100000
namespace Mine

/-! ## the cells that a comprehension takes along -/
noncomputable def clOf (env : Env) : List (Str × NameKind) → List (Str × Addr) → List (Str × Addr)
  | [], acc => acc
  | (n, k) :: r, acc => if k == .free then clOf env r ((n, (env.cells.lookup n).getD 0) :: acc) else clOf env r acc
theorem closure_go {env : Env} : ∀ (names : List (Str × NameKind)) (acc : List (Str × Addr)), (∀ p ∈ names, p.2 = .free → ∃ c, env.cells.lookup p.1 = some c) →
    (forIn names acc fun x r => match x with | (name, kind) => if (kind == .free) = true then (do let a ← cellOf env name; pure (ForInStep.yield ((name, a) :: r))) else pure (ForInStep.yield r) : Sem _) = pure (clOf env names acc)
  | [], acc, _ => rfl
  | (n, k) :: r, acc, h => by
    rw [List.forIn_cons]
    unfold clOf
    by_cases hk : (k == NameKind.free) = true
    · obtain ⟨c, hc⟩ := h (n, k) (List.mem_cons_self ..) (by (first | exact eq_of_beq hk | simpa using hk))
      simp only [hk, if_true]
      unfold cellOf
      rw [hc]
      exact closure_go r _ fun p hp => h p (List.mem_cons_of_mem _ hp)
    · simp only [hk, Bool.false_eq_true, if_false]
      exact closure_go r _ fun p hp => h p (List.mem_cons_of_mem _ hp)
theorem clOf_sub {env : Env} : ∀ (names : List (Str × NameKind)) (acc : List (Str × Addr)), (∀ p ∈ names, p.2 = .free → ∃ c, env.cells.lookup p.1 = some c) → (∀ y c, acc.lookup y = some c → env.cells.lookup y = some c) → ∀ y c, (clOf env names acc).lookup y = some c → env.cells.lookup y = some c
  | [], acc, _, ha => ha
  | (n, k) :: r, acc, h, ha => by
    unfold clOf
    by_cases hk : (k == NameKind.free) = true
    · rw [if_pos hk]
      obtain ⟨c, hc⟩ := h (n, k) (List.mem_cons_self ..) (by (first | exact eq_of_beq hk | simpa using hk))
      have hc : env.cells.lookup n = some c := hc
      refine clOf_sub r _ (fun p hp => h p (List.mem_cons_of_mem _ hp)) fun y c' e => ?_
      rw [List.lookup_cons] at e
      cases hy : y == n with
      | true => rw [hy] at e; have : y = n := by (first | exact eq_of_beq hy | simpa using hy)
                subst this; rw [hc] at e ⊢; simpa using e
      | false => rw [hy] at e; exact ha y c' e
    · rw [if_neg hk]
      exact clOf_sub r _ (fun p hp => h p (List.mem_cons_of_mem _ hp)) ha
theorem clOf_some {env : Env} {x : Str} : ∀ (names : List (Str × NameKind)) (acc : List (Str × Addr)), (acc.lookup x).isSome = true ∨ (x, NameKind.free) ∈ names → ((clOf env names acc).lookup x).isSome = true
  | [], acc, h => h.elim id (fun z => by cases z)
  | (n, k) :: r, acc, h => by
    unfold clOf
    by_cases hk : (k == NameKind.free) = true
    · rw [if_pos hk]
      refine clOf_some r _ ?_
      cases hy : x == n with
      | true => exact .inl (by rw [List.lookup_cons, hy]; rfl)
      | false =>
        refine h.imp (fun z => by rw [List.lookup_cons, hy]; exact z) fun z => ?_
        rcases List.mem_cons.mp z with e | e
        · cases e; simp at hy
        · exact e
    · rw [if_neg hk]
      refine clOf_some r _ (h.imp id fun z => ?_)
      rcases List.mem_cons.mp z with e | e
      · cases e; exact absurd rfl hk
      · exact e
theorem lookup_mem {α : Type} {x : Str} {k : α} : ∀ {l : List (Str × α)}, l.lookup x = some k → (x, k) ∈ l
  | [], h => by cases h
  | (n, k') :: r, h => by
    rw [List.lookup_cons] at h
    cases hx : x == n with
    | true => rw [hx] at h; cases h; have : x = n := by (first | exact eq_of_beq hx | simpa using hx)
              subst this; exact List.mem_cons_self ..
    | false => rw [hx] at h; exact List.mem_cons_of_mem _ (lookup_mem h)

section
variable {prog : Program} {w : World} {g : HX} {qt : Bool} {d : Nat} {K : Frag} {T : Tabs} {A : Around} {E : Value → Shared → Prop} {s : Shared} {ρ ρ₁ : List Addr} {H H₁ : Hp} {P : Addr → Prop} {sc scope : Scope} {env : Env} {m : Loc} {r r' : Ops} {cl : CallOp} {up : Bool}

theorem scope_spec (h : scopeOk sc scope = true) : scope.kind = .function ∧ (∀ p ∈ scope.names, p.2 ≠ .cell) ∧ (∀ p ∈ scope.names, p.2 = .local → scope.names.lookup p.1 = some .local) ∧
    (∀ p ∈ scope.names, p.2 = .free → clsK (sc.names.lookup p.1) = 2 ∧ scope.names.lookup p.1 = some .free) := by
  unfold scopeOk at h
  simp only [Bool.and_eq_true, List.all_eq_true] at h
  obtain ⟨a, b⟩ := h
  refine ⟨by revert a; cases scope.kind <;> simp, fun p hp e => ?_, fun p hp e => ?_, fun p hp e => ?_⟩
  · have := b p hp; rw [e] at this; cases this
  · have := b p hp; rw [e] at this
    dsimp only [isLoc] at this
    split at this
    · assumption
    · cases this
  · have := b p hp; rw [e] at this
    simp only [Bool.and_eq_true] at this
    obtain ⟨u, v⟩ := this
    refine ⟨?_, ?_⟩
    · unfold isCel at u
      split at u
      · rename_i q; rw [q]; rfl
      · rename_i q; rw [q]; rfl
      · cases u
    · unfold isFree at v
      split at v
      · assumption
      · cases v
theorem closure_of (h : scopeOk sc scope = true) (R : ER g sc env m ρ s.heap) : closureFor scope env = pure (clOf env scope.names []) ∧ (∀ x c, (clOf env scope.names []).lookup x = some c → env.cells.lookup x = some c) ∧
    ∀ x, clsK (scope.names.lookup x) = 2 → (clOf env scope.names []).lookup x = env.cells.lookup x ∧ clsK (sc.names.lookup x) = 2 ∧ scope.names.lookup x = some .free := by
  obtain ⟨_, a2, _, a4⟩ := scope_spec h
  have hc : ∀ p ∈ scope.names, p.2 = .free → ∃ c, env.cells.lookup p.1 = some c := fun p hp e => by
    obtain ⟨c, hc, _⟩ := R.cells p.1 (by rw [R.cls]; exact (a4 p hp e).1)
    exact ⟨c, hc⟩
  have sub := clOf_sub scope.names [] hc (fun y c e => by cases e)
  refine ⟨?_, sub, fun x hx => ?_⟩
  · unfold closureFor
    have := closure_go scope.names [] hc
    show (forIn scope.names [] _ >>= fun cs => pure cs) = _
    rw [show (forIn scope.names ([] : List (Str × Addr)) _ : Sem _) = pure (clOf env scope.names []) from this]
    rfl
  · have hf : scope.names.lookup x = some .free := by
      cases hl : scope.names.lookup x with
      | none => rw [hl] at hx; cases hx
      | some k =>
        rw [hl] at hx
        cases k <;> first | rfl | exact absurd rfl (a2 _ (lookup_mem hl)) | cases hx
    have hm := lookup_mem hf
    refine ⟨?_, (a4 _ hm rfl).1, hf⟩
    obtain ⟨c, e⟩ := Option.isSome_iff_exists.mp (clOf_some (env := env) (x := x) scope.names [] (.inr hm))
    rw [e, sub x c e]
theorem relabel_cls (x : Str) : clsK ((relabel scope env).names.lookup x) = clsK (scope.names.lookup x) := by
  unfold relabel
  generalize scope.names = l
  induction l with
  | nil => rfl
  | cons p l ih =>
    obtain ⟨n, k⟩ := p
    rw [List.map_cons]
    dsimp only at ih ⊢
    by_cases hc : (k == NameKind.free && env.scope.kind == .function && env.kindOf n == some .cell) = true
    · rw [if_pos hc]
      cases hx : x == n with
      | true =>
        rw [List.lookup_cons, List.lookup_cons, hx]
        simp only [Bool.and_eq_true, beq_iff_eq] at hc
        rw [hc.1.1]; rfl
      | false => rw [List.lookup_cons, List.lookup_cons, hx]; exact ih
    · rw [if_neg hc]
      cases hx : x == n with
      | true => rw [List.lookup_cons, List.lookup_cons, hx]
      | false => rw [List.lookup_cons, List.lookup_cons, hx]; exact ih
theorem filter_lookup {α : Type} {x : Str} (q : Str → Bool) : ∀ l : List (Str × α), (l.filter fun p => q p.1).lookup x = if q x = true then l.lookup x else .none
  | [] => by simp
  | (n, v) :: l => by
    rw [List.filter_cons]
    have ih := filter_lookup (x := x) q l
    cases hx : x == n with
    | true =>
      have : x = n := by (first | exact eq_of_beq hx | simpa using hx)
      subst this
      cases hq : q x with
      | true => simp
      | false => rw [hq] at ih; simpa using ih
    | false =>
      cases hq : q n with
      | true => simp only [if_true, List.lookup_cons, hx]; exact ih
      | false => simp only [Bool.false_eq_true, if_false, List.lookup_cons, hx]; exact ih
theorem freeOf_lookup {x : Str} : (freeOf scope m).lookup x = match scope.names.lookup x with | some .free => m.lookup x | _ => .none := by
  unfold freeOf
  rw [filter_lookup (isFree scope)]
  unfold isFree
  cases h : scope.names.lookup x with
  | none => rfl
  | some k => cases k <;> rfl

/-- the frame of a comprehension, its own names unbound -/
theorem comp_ER {h : Heap} {C : Addr} {mC : Str → Option Value} (hs : scopeOk sc scope = true) (R : ER g sc env m ρ h)
    (hc1 : ∀ x c, (clOf env scope.names []).lookup x = some c → env.cells.lookup x = some c) (hc2 : ∀ x, clsK (scope.names.lookup x) = 2 → (clOf env scope.names []).lookup x = env.cells.lookup x ∧ clsK (sc.names.lookup x) = 2 ∧ scope.names.lookup x = some .free)
    (hn : h.Ns C mC) (hC : C ∉ ρ) (hlo : g.objs.size ≤ C) (hne : ∀ x c, clsK (env.kindOf x) = 2 → env.cells.lookup x = some c → c ≠ C) : ER g scope (compEnvC scope (clOf env scope.names []) C env) (freeOf scope m) ρ h := by
  obtain ⟨a1, a2, a3, a4⟩ := scope_spec hs
  refine ⟨a1, R.glob, R.blt, fun x => relabel_cls x, fun x hx => absurd rfl (a2 _ (lookup_mem hx)), hlo, hC, ⟨mC, hn, fun x v hk hm => ?_⟩, fun x hx => ?_, fun x y c e e' => R.inj x y c (hc1 x c e) (hc1 y c e')⟩
  · rw [freeOf_lookup] at hm
    have : clsK (scope.names.lookup x) = 1 := by
      rw [← relabel_cls (env := env)]
      have hk' : (relabel scope env).names.lookup x = some .local := hk
      rw [hk']; rfl
    cases hl : scope.names.lookup x with
    | none => rw [hl] at hm; cases hm
    | some k => rw [hl] at hm this; cases k <;> first | cases hm | cases this
  · have hx' : clsK (scope.names.lookup x) = 2 := by rw [← relabel_cls (env := env)]; exact hx
    obtain ⟨e1, e2, e3⟩ := hc2 x hx'
    obtain ⟨c, b1, b2, b3, b4, ov, b5, b6⟩ := R.cells x (by rw [R.cls]; exact e2)
    refine ⟨c, e1.trans b1, hne x c (by rw [R.cls]; exact e2) b1, b3, b4, ov, b5, fun v hv => b6 v ?_⟩
    rw [freeOf_lookup, e3] at hv
    exact hv
end
end Mine
end
section
open PySem PySem.W PyProof.Rows
set_option maxRecDepth 100000
namespace Mine
section
variable {prog : Program} {w : World} {g : HX} {qt : Bool} {d : Nat} {K : Frag} {T : Tabs} {A : Around} {E : Value → Shared → Prop} {s : Shared} {ρ ρ₁ : List Addr} {H H₁ : Hp} {P : Addr → Prop} {sc scope : Scope} {env : Env} {m : Loc} {r r' : Ops} {cl : CallOp} {up : Bool}

theorem isLoc_spec {x : Str} (h : isLoc sc x = true) : sc.names.lookup x = some .local := by
  unfold isLoc at h; split at h
  · assumption
  · cases h
theorem cons_lookup {x y : Str} {v : V} : ((x, v) :: m).lookup y = if y = x then some v else m.lookup y := by
  rw [List.lookup_cons]
  by_cases e : y = x
  · subst e; simp
  · have : (y == x) = false := by simpa using e
    rw [this, if_neg e]

/-! ## stores to names -/
theorem ER.notin {h : Heap} (R : ER g sc env m ρ h) : g.get? env.locals = none := none_ge R.lo
theorem store_local {x : Str} {v : V} {c : Value} {Q : Unit → Shared → Prop} (R : ER g sc env m ρ s.heap) (hx : isLoc sc x = true) (hr : VR ρ v c)
    (q : ∀ h' tk, ER g sc env ((x, v) :: m) ρ h' → Heap.SameBut env.locals s.heap h' → Q () { s with heap := h', toks := tk }) : wpAny (model prog w) A (storeName env x c) Q E s := by
  obtain ⟨mL, hn, hv⟩ := R.ns
  have hk := cls_local R (isLoc_spec hx)
  refine wpAny_storeName_local hk hn (fun h' hn' hs => q h' _ ?_ hs) (by rw [R.kind]; rfl)
  refine ⟨R.kind, R.glob, R.blt, R.cls, R.cel, R.lo, R.apart, ⟨_, hn', fun y v' hk' hm => ?_⟩, fun y hy => ?_, R.inj⟩
  · rw [cons_lookup] at hm
    by_cases e : y = x
    · subst e; rw [if_pos rfl] at hm ⊢; cases hm; exact ⟨c, rfl, hr⟩
    · rw [if_neg e] at hm ⊢; exact hv y v' hk' hm
  · obtain ⟨c', b1, b2, b3, b4, ov, b5, b6⟩ := R.cells y hy
    refine ⟨c', b1, b2, b3, b4, ov, b5.sameBut hs b2, fun v' hv' => b6 v' ?_⟩
    rw [cons_lookup] at hv'
    by_cases e : y = x
    · subst e; rw [hk] at hy; cases hy
    · rw [if_neg e] at hv'; exact hv'
theorem store_cell {x : Str} {v : V} {c : Value} {Q : Unit → Shared → Prop} (R : ER g sc env m ρ s.heap) (hx : sc.names.lookup x = some .cell) (hr : VR ρ v c)
    (q : ∀ h' a, own env a → a ∉ ρ → g.get? a = none → (∃ o, h'.get? a = some o) → ER g sc env ((x, v) :: m) ρ h' → Heap.SameBut a s.heap h' → Q () { s with heap := h' }) : wpAny (model prog w) A (storeName env x c) Q E s := by
  have hk := R.cel x hx
  obtain ⟨a, b1, b2, b3, b4, ov, b5, b6⟩ := R.cells x (by rw [hk]; rfl)
  obtain ⟨mL, hn, hv⟩ := R.ns
  refine wpAny_storeName_cell R.kind hk b1 b5 fun h' hc hs => q h' a (.inr ⟨x, by rw [hk]; rfl, b1⟩) b3 (none_ge b4) (by obtain ⟨o, e, _⟩ := hc; exact ⟨o, e⟩) ?_ hs
  refine ⟨R.kind, R.glob, R.blt, R.cls, R.cel, R.lo, R.apart, ⟨mL, hn.sameBut hs (Ne.symm b2), fun y v' hk' hm => ?_⟩, fun y hy => ?_, R.inj⟩
  · rw [cons_lookup] at hm
    by_cases e : y = x
    · subst e; rw [hk] at hk'; cases hk'
    · rw [if_neg e] at hm; exact hv y v' hk' hm
  · obtain ⟨c', d1, d2, d3, d4, ov', d5, d6⟩ := R.cells y hy
    by_cases e : y = x
    · subst e
      rw [b1] at d1; cases d1
      refine ⟨a, b1, b2, b3, b4, some c, hc, fun v' hv' => ?_⟩
      rw [cons_lookup, if_pos rfl] at hv'
      cases hv'
      exact ⟨c, rfl, hr⟩
    · have hne : c' ≠ a := fun z => e (R.inj y x a (z ▸ d1) b1)
      refine ⟨c', d1, d2, d3, d4, ov', d5.sameBut hs hne, fun v' hv' => d6 v' ?_⟩
      rw [cons_lookup, if_neg e] at hv'
      exact hv'
/-- one own object changed -/
theorem own_step {a : Addr} {h h' : HX} (I : Inv prog w g ρ H h) (ho : own env a) (hn : a ∉ ρ) (hg : g.get? a = none) (hl : ∃ o, h'.get? a = some o) (hs : Heap.SameBut a h.toHeap h'.toHeap) (hos : h'.os = h.os := by rfl) (hgs : h'.gens = h.gens := by rfl) : Inv prog w g ρ H h' ∧ Step (own env) qt ρ ρ h.toHeap h'.toHeap :=
  ⟨I.quiet (fun b o e e1 => (hs.2 b (fun z => by rw [z, hg] at e; cases e)).trans e1) (fun b hb o e => (hs.2 b (fun z => hn (z ▸ hb))).trans e) hos hgs,
   Step.quiet (fun b o e p => (hs.2 b (fun z => p (z ▸ ho))).trans e) (live_but hs hl) fun b hb o e => (hs.2 b (fun z => hn (z ▸ hb))).trans e⟩
/-- all kept but the frame's names -/
abbrev KeptL (env : Env) (h h' : Heap) : Prop := ∀ b ob, b ≠ env.locals → h.get? b = some ob → h'.get? b = some ob
theorem kept_inv {h h' : HX} (I : Inv prog w g ρ H h) (R : ER g sc env m ρ h.toHeap) (hk : KeptL env h.toHeap h'.toHeap) (hos : h'.os = h.os := by rfl) (hgs : h'.gens = h.gens := by rfl) : Inv prog w g ρ H h' :=
  I.quiet (fun b o e e1 => hk b o (fun z => by rw [z, R.notin] at e; cases e) e1) (fun b hb o e => hk b o (fun z => R.apart (z ▸ hb)) e) hos hgs
theorem kept_step {h h' : Heap} {m' : Loc} (R : ER g sc env m ρ h) (R' : ER g sc env m' ρ h') (hk : KeptL env h h') : Step (own env) qt ρ ρ h h' := by
  refine Step.quiet (fun b o e p => hk b o (fun z => p (.inl z)) e) (fun b o e => ?_) fun b hb o e => hk b o (fun z => R.apart (z ▸ hb)) e
  by_cases z : b = env.locals
  · subst z; obtain ⟨_, hn, _⟩ := R'.ns; exact Heap.Ns.live hn
  · exact ⟨o, hk b o z e⟩

/-! ## unpacking -/
theorem draw_src {i : Nat} {o : O} {a it : Addr} {xs : List V} (hh : A.handled = none) (hi : H[i]? = some o) (ha : ρ[i]? = some a) (hx : itemsOf o = some xs) (hit : it ∉ ρ) (hg : g.get? it = none) :
    ∀ (n k : Nat) {s : Shared} {Q : List Value → Shared → Prop}, Inv prog w g ρ H (hxs s) → SrcAt s.heap o a it k → k + n ≤ xs.length →
    (∀ h' tk cs, VRs ρ ((xs.drop k).take n) cs → SrcAt h' o a it (k + n) → (∀ b ob, b ≠ it → s.heap.get? b = some ob → h'.get? b = some ob) → Q cs { s with heap := h', toks := tk }) → wpAny (model prog w) A (draw (.ref it) n) Q E s
  | 0, k, s, Q, I, X, _, q => by
    show wpAny _ _ (pure []) Q E s
    refine wpAny_pure ?_
    have := q s.heap s.toks [] (by rw [List.take_zero]; exact .nil) X fun _ _ _ e => e
    exact this
  | n + 1, k, s, Q, I, X, hle, q => by
    show wpAny _ _ (pyNext (.ref it) >>= _) Q E s
    refine wpAny_bind (src_next hh I hi ha hx X hit (fun hlt => absurd hlt (by lia)) fun v c h1 tk hv hr X1 hk => ?_)
    have I1 : Inv prog w g ρ H ⟨h1, s.os, s.gens⟩ := I.quiet (fun b ob e e1 => hk b ob (fun z => by rw [z, hg] at e; cases e) e1) fun b hb ob e => hk b ob (fun z => hit (z ▸ hb)) e
    refine wpAny_bind (wpAny_holding (draw_src hh hi ha hx hit hg n (k + 1) (s := { s with heap := h1, toks := tk }) I1 X1 (by lia) fun h2 tk2 cs hrs X2 hk2 => wpAny_pure ?_))
    refine q h2 tk2 (c :: cs) ?_ (by rw [show k + (n + 1) = k + 1 + n by lia]; exact X2) fun b ob hb e => hk2 b ob hb (hk b ob hb e)
    have hd : xs.drop k = v :: xs.drop (k + 1) := by
      have hlt := (List.getElem?_eq_some_iff.mp hv)
      rw [List.drop_eq_getElem_cons hlt.1, hlt.2]
    rw [hd, List.take_succ_cons]
    exact .cons hr hrs
theorem unpack_src {i : Nat} {o : O} {a : Addr} {xs : List V} {n : Nat} {Q : List Value → Shared → Prop} (hm : ∃ ob, g.get? sysModules = some ob) (hh : A.handled = none) (I : Inv prog w g ρ H (hxs s)) (hi : H[i]? = some o) (ha : ρ[i]? = some a)
    (hx : seqItems o = some xs) (hn : xs.length = n)
    (q : ∀ h' tk cs, VRs ρ xs cs → (∀ b ob, s.heap.get? b = some ob → h'.get? b = some ob) → Q cs { s with heap := h', toks := tk }) : wpAny (model prog w) A (unpackItems (.ref a) n none) Q E s := by
  have hx' : itemsOf o = some xs := by cases o <;> first | exact hx | cases hx
  have hno : wpAny (model prog w) A (notIterableAtAll (.ref a)) (fun b s' => b = false ∧ s' = s) E s := by
    have x := I.objs i o a hi ha
    unfold notIterableAtAll
    cases o with
    | list ys => obtain ⟨cs, k, e, _⟩ := x; exact wpAny_bind (wpAny_specialOf (T := "list") ⟨_, e, rfl⟩ PySem.F.slot_list_iter.lookup (wpAny_pure ⟨rfl, rfl⟩))
    | tuple ys => obtain ⟨cs, k, e, _⟩ := x; exact wpAny_bind (wpAny_specialOf (T := "tuple") ⟨_, e, rfl⟩ PySem.F.slot_tuple_iter.lookup (wpAny_pure ⟨rfl, rfl⟩))
    | range lo hi' =>
      obtain ⟨t, u, v, e, _⟩ := x; exact wpAny_bind (wpAny_specialOf (T := "range") ⟨_, e, rfl⟩ PySem.F.slot_range_iter.lookup (wpAny_pure ⟨rfl, rfl⟩))
    | _ => cases hx
  have hnew : s.heap.get? s.heap.objs.size = none := none_ge (Nat.le_refl _)
  have hnot := fresh_not I hnew
  unfold unpackItems
  refine wpAny_bind (wpAny_mono hno (fun b s' z => ?_) fun _ _ x => x)
  obtain ⟨rfl, rfl⟩ := z
  simp only [Bool.false_eq_true, if_false]
  refine wpAny_bind (wpAny_holding (src_start hm I hi ha hx' fun ob X => ?_))
  have I1 : Inv prog w g ρ H ⟨s'.heap.push ob, s'.os, s'.gens⟩ := I.all fun b o e => Heap.get?_push_of_some _ e
  refine wpAny_bind (wpAny_holding (draw_src hh hi ha hx' hnot (I.gfree hnew) n 0 (s := { s' with heap := s'.heap.push ob }) I1 X (by lia) fun h2 tk2 cs hrs X2 hk2 => ?_))
  have hall : (xs.drop 0).take n = xs := by rw [List.drop_zero, ← hn, List.take_length]
  rw [hall] at hrs
  have hl := hrs.length
  rw [if_neg (by lia)]
  have I2 : Inv prog w g ρ H ⟨h2, s'.os, s'.gens⟩ := I1.quiet (fun b ob e e1 => hk2 b ob (fun z => by rw [z, I.gfree hnew] at e; cases e) e1) fun b hb ob e => hk2 b ob (fun z => hnot (z ▸ hb)) e
  refine wpAny_bind (wpAny_holding (src_next (s := { s' with heap := h2, toks := tk2 }) hh I2 hi ha hx' X2 hnot (fun _ h3 hk3 => ?_) fun v c h3 tk hv _ _ _ => ?_))
  · simp only [Option.isSome_none, Bool.false_eq_true, if_false]
    exact wpAny_pure (q h3 tk2 cs hrs fun b ob e => by
      have hb : b ≠ s'.heap.objs.size := Nat.ne_of_lt (Heap.lt_size e)
      exact hk3 b ob hb (hk2 b ob hb (Heap.get?_push_of_some _ e)))
  · have := (List.getElem?_eq_some_iff.mp hv).1
    lia
end
end Mine
end
section
open PySem PySem.W PyProof.Rows
set_option maxRecDepth 100000
namespace Mine
section
variable {prog : Program} {w : World} {g : HX} {qt : Bool} {d : Nat} {K : Frag} {T : Tabs} {A : Around} {E : Value → Shared → Prop} {s : Shared} {ρ ρ₁ : List Addr} {H H₁ : Hp} {P : Addr → Prop} {sc scope : Scope} {env : Env} {m : Loc} {r r' : Ops} {cl : CallOp} {up : Bool}

noncomputable def Stores (prog : Program) (w : World) (A : Around) (env : Env) : List Str → List (Value → Sem Unit) → Prop
  | [], [] => True
  | x :: xs, st :: sts => (∀ c (Q : Unit → Shared → Prop) (E : Value → Shared → Prop) (s : Shared), wpAny (model prog w) A (storeName env x c) Q E s → wpAny (model prog w) A (st c) Q E s) ∧ Stores prog w A env xs sts
  | _, _ => False
theorem stores_names : ∀ {es : List PySem.Expr} {xs : List Str}, names? es = some xs → Stores prog w A env xs ((assignEach es env).map (·.2)) ∧ (assignEach es env).length = xs.length ∧ (assignEach es env).findIdx? (·.1) = none
  | [], xs, h => by simp [names?] at h; subst h; exact ⟨trivial, rfl, rfl⟩
  | e :: es, xs, h => by
    cases e with
    | Name x p =>
      simp only [names?] at h
      cases hl : names? es with
      | none => rw [hl] at h; cases h
      | some l =>
        rw [hl] at h; cases h
        obtain ⟨a, b, c⟩ := stores_names hl
        refine ⟨⟨fun c Q E s h => PyProof.Rows.assign_Name h, a⟩, ?_, ?_⟩
        · show (assignEach es env).length + 1 = _; rw [b]; rfl
        · show List.findIdx? _ ((false, _) :: assignEach es env) = none
          rw [List.findIdx?_cons]; simp [c]
    | _ => cases h
theorem stores_binds : ∀ {xs : List Str}, Stores prog w A env xs (xs.map fun n => bindName env n)
  | [] => trivial
  | _ :: _ => ⟨fun _ _ _ _ h => wpAny_bindName h, stores_binds⟩
theorem names_go (xs : List Str) (sts : List (Value → Sem Unit)) (vs : List V) (cs : List Value) {m : Loc} {s : Shared} {Q : Unit → Shared → Prop} (hs : Stores prog w A env xs sts) (hl : xs.all (isLoc sc) = true) (hlen : vs.length = xs.length) (hrs : VRs ρ vs cs) (R : ER g sc env m ρ s.heap) (I : Inv prog w g ρ H (hxs s))
    (q : ∀ s' : Shared, ER g sc env ((xs.zip vs).reverse ++ m) ρ s'.heap → Inv prog w g ρ H (hxs s') → KeptL env s.heap s'.heap → Q () s') : wpAny (model prog w) A (assignInOrder sts cs) Q E s := by
  induction xs generalizing sts vs cs m s with
  | nil =>
    cases vs with | cons => cases hlen | nil =>
    cases hrs
    cases sts with | cons => exact hs.elim | nil =>
    exact wpAny_assignInOrder_none (q s R I fun _ _ _ e => e)
  | cons x xs ih =>
    cases sts with | nil => exact hs.elim | cons st sts =>
    cases vs with | nil => cases hlen | cons v vs =>
    cases hrs with | cons hr hrs =>
    rw [List.all_cons, Bool.and_eq_true] at hl
    refine wpAny_assignInOrder_more (hs.1 _ _ _ _ (store_local R hl.1 hr fun h' tk R' hsb => ?_))
    have k1 : KeptL env s.heap h' := fun b ob hb e => (hsb.2 b hb).trans e
    have I1 := kept_inv (h' := ⟨h', s.os, s.gens⟩) I R k1
    refine ih sts vs _ (s := { s with heap := h', toks := tk }) hs.2 hl.2 (Nat.succ.inj hlen) hrs R' I1 fun s' R2 I2 k2 => q s' ?_ I2 fun b ob hb e => k2 b ob hb (k1 b ob hb e)
    rw [List.zip_cons_cons, List.reverse_cons, List.append_assoc]
    exact R2
theorem lookup_app {x : Str} : ∀ {l : Loc}, (l ++ m).lookup x = (l.lookup x).or (m.lookup x)
  | [] => rfl
  | (y, v) :: l => by
    rw [List.cons_append, cons_lookup, cons_lookup]
    by_cases e : x = y
    · rw [if_pos e, if_pos e]; rfl
    · rw [if_neg e, if_neg e]; exact lookup_app
theorem lookup_nodup {x : Str} {v : V} : ∀ {l : Loc}, (l.map (·.1)).Nodup → (x, v) ∈ l → l.lookup x = some v
  | (y, u) :: l, hn, h => by
    rw [List.map_cons, List.nodup_cons] at hn
    rw [cons_lookup]
    rcases List.mem_cons.mp h with e | e
    · cases e; rw [if_pos rfl]
    · rw [if_neg (fun z => hn.1 (List.mem_map.mpr ⟨_, e, z⟩)), lookup_nodup hn.2 e]
theorem lookup_rev {x : Str} {l : Loc} (hn : (l.map (·.1)).Nodup) : l.reverse.lookup x = l.lookup x := by
  cases h : l.lookup x with
  | some v => exact lookup_nodup (by rw [List.map_reverse]; exact List.pairwise_reverse.mpr (hn.imp fun z => Ne.symm z)) (List.mem_reverse.mpr (lookup_mem h))
  | none =>
    cases h' : l.reverse.lookup x with
    | none => rfl
    | some v => rw [lookup_nodup hn (List.mem_reverse.mp (lookup_mem h'))] at h; cases h

theorem zip_rev : ∀ {xs : List Str} {vs : List V}, vs.length = xs.length → xs.reverse.zip vs.reverse = (xs.zip vs).reverse
  | [], [], _ => rfl
  | [], _ :: _, h => by cases h
  | _ :: _, [], h => by cases h
  | x :: xs, v :: vs, h => by
    have h' : vs.length = xs.length := by (first | exact Nat.succ.inj h | simpa using h)
    rw [List.reverse_cons, List.reverse_cons, List.zip_append (by simp [h']), zip_rev h']
    show (xs.zip vs).reverse ++ [(x, v)] = ((x, v) :: xs.zip vs).reverse
    rw [List.reverse_cons]
theorem tgtLoc_spec {t : PySem.Expr} {xs : List Str} (h : tgtLoc sc t = some xs) : ∃ es k p, t = .Tuple es k p ∧ names? es = some xs ∧ xs.all (isLoc sc) = true ∧ nodupB xs = true := by
  cases t with
  | Tuple es k p =>
    unfold tgtLoc at h
    dsimp only at h
    split at h
    · rename_i ys hy
      split at h
      · rename_i hb
        cases h
        rw [Bool.and_eq_true] at hb
        exact ⟨es, k, p, rfl, hy, hb.1, hb.2⟩
      · cases h
    · cases h
  | _ => cases h
theorem bindN_spec {xs : List Str} {v : V} {Q : Loc → Prop} (h : bindN H xs v m Q) : ∃ i vs, v = .ref i ∧ H[i]? = some (O.tuple vs) ∧ vs.length = xs.length ∧ Q ((xs.zip vs).reverse ++ m) := by
  unfold bindN at h
  split at h
  · obtain ⟨o, e, h⟩ := onO_some h
    split at h
    · exact ⟨_, _, rfl, e, h.1, h.2⟩
    · exact h.elim
  · exact h.elim
/-- names of a tuple's parts bound, in the order of the text -/
theorem tgt_sound {t : PySem.Expr} {xs : List Str} {v : V} {c : Value} {Q : Loc → Prop} {R' : Unit → Shared → Prop} (hm : ∃ ob, g.get? sysModules = some ob) (hA : OkB d A) (ht : tgtLoc sc t = some xs) (h : bindN H xs v m Q) (hr : VR ρ v c) (R : ER g sc env m ρ s.heap) (I : Inv prog w g ρ H (hxs s))
    (q : ∀ m' (s' : Shared), Q m' → ER g sc env m' ρ s'.heap → Inv prog w g ρ H (hxs s') → KeptL env s.heap s'.heap → R' () s') : wpAny (model prog w) A (assign t env c) R' E s := by
  obtain ⟨es, k, p, rfl, hn, hl, _⟩ := tgtLoc_spec ht
  obtain ⟨i, vs, rfl, hi, hlen, hq⟩ := bindN_spec h
  obtain ⟨a, ha, rfl⟩ := hr
  obtain ⟨st, sl, sf⟩ := stores_names (prog := prog) (w := w) (A := A) (env := env) hn
  rw [PyProof.Rows.assign_Tuple]
  refine wpAny_bind (wpAny_standAt ?_)
  unfold unpack
  rw [sl, sf]
  refine wpAny_bind (wpAny_holding (unpack_src hm hA.1 I hi ha rfl hlen fun h' tk cs hrs hk => ?_))
  exact names_go xs _ vs cs (s := { s with heap := h', toks := tk }) st hl hlen hrs (R.step (Step.keeps (qt := true) hk)) (I.all hk) fun s' R2 I2 k2 => q _ s' hq R2 I2 fun b ob hb e => k2 b ob hb (hk b ob e)
/-- the same in the order that the machine has for a tuple that is never made -/
theorem swap_sound {xs : List Str} {v : V} {c : Value} {Q : Loc → Prop} {R' : Unit → Shared → Prop} (hm : ∃ ob, g.get? sysModules = some ob) (hA : OkB d A) (hl : xs.all (isLoc sc) = true) (hn : nodupB xs = true) (h : bindN H xs v m Q) (hr : VR ρ v c) (R : ER g sc env m ρ s.heap) (I : Inv prog w g ρ H (hxs s))
    (q : ∀ m' (s' : Shared), Q m' → ER g sc env m' ρ s'.heap → Inv prog w g ρ H (hxs s') → KeptL env s.heap s'.heap → R' () s') :
    wpAny (model prog w) A (unpackItems c xs.length none) (fun items s₂ => wpAny (model prog w) A (assignInOrder (xs.reverse.map fun n => bindName env n) items.reverse) R' E s₂) E s := by
  obtain ⟨i, vs, rfl, hi, hlen, hq⟩ := bindN_spec h
  obtain ⟨a, ha, rfl⟩ := hr
  refine unpack_src hm hA.1 I hi ha rfl hlen fun h' tk cs hrs hk => ?_
  have hcs := hrs.length
  have rev : VRs ρ vs.reverse cs.reverse := by
    have : ∀ {vs : List V} {cs : List Value}, VRs ρ vs cs → VRs ρ vs.reverse cs.reverse := by
      intro vs cs h
      induction h with
      | nil => exact .nil
      | cons a _ ih => rw [List.reverse_cons, List.reverse_cons]; exact ih.append (.cons a .nil)
    exact this hrs
  refine names_go xs.reverse _ vs.reverse cs.reverse (s := { s with heap := h', toks := tk }) stores_binds (by rw [List.all_reverse]; exact hl) (by simp [hlen]) rev (R.step (Step.keeps (qt := true) hk)) (I.all hk) fun s' R2 I2 k2 => q _ s' hq (R2.same fun x => ?_) I2 fun b ob hb e => k2 b ob hb (hk b ob e)
  have hz : (xs.reverse.zip vs.reverse) = (xs.zip vs).reverse := by
    exact zip_rev hlen
  have hnd : ((xs.zip vs).map (·.1)).Nodup := by rw [List.map_fst_zip (by lia)]; exact nodupB_spec hn
  rw [hz, List.reverse_reverse, lookup_app, lookup_app, lookup_rev hnd]

/-! ## targets -/
theorem UPost.toA {Q : Hp → Prop} {h : Heap} {s' : Shared} {Q' : Loc → Hp → Prop} (R : ER g sc env m ρ h) (x : UPost prog w g qt ρ h Q s') (hq : ∀ H', Q H' → Q' m H') : APost prog w g qt sc env ρ h Q' s' := by obtain ⟨H', ρ', q, i, t⟩ := x; exact ⟨m, H', ρ', hq _ q, R.step t, i, t.any⟩
theorem each_cons {t : PySem.Expr} {ts : List PySem.Expr} (this : ∀ e p, t ≠ .Starred e p) : assignEach (t :: ts) env = (false, assign t env) :: assignEach ts env := by
  cases t <;> first | rfl | exact absurd rfl (this _ _)
theorem asgs_go (S : SOps prog w g qt d r) (hA : OkB d A) (ts : List PySem.Expr) (vs : List V) (cs : List Value) {m : Loc} {H : Hp} {s : Shared} {ρ : List Addr} {Q : Loc → Hp → Prop} (hn : noStar ts = true) (h : asgs r sc ts vs m H Q) (hrs : VRs ρ vs cs) (R : ER g sc env m ρ s.heap) (I : Inv prog w g ρ H (hxs s)) :
    wpAny (model prog w) A (assignInOrder ((assignEach ts env).map (·.2)) cs) (fun _ => APost prog w g qt sc env ρ s.heap Q) E s := by
  induction ts generalizing vs cs m H s ρ with
  | nil =>
    cases vs with | cons => exact h.elim | nil =>
    cases hrs
    exact wpAny_assignInOrder_none ⟨m, H, ρ, h, R, I, .refl⟩
  | cons t ts ih =>
    cases vs with | nil => exact h.elim | cons v vs =>
    cases hrs with | cons hr hrs =>
    rw [each_cons (noStar_cons hn).1]
    refine wpAny_assignInOrder_more (wpAny_mono (S.asg sc t v _ m H _ env A s E ρ h hA R I hr) (fun _ s1 x => ?_) fun _ _ x => x)
    obtain ⟨m1, H1, ρ1, x, R1, I1, S1⟩ := x
    obtain ⟨t', ht', _⟩ := S1.pre
    exact wpAny_mono (ih vs _ (noStar_cons hn).2 x (hrs.mono ht') R1 I1) (fun _ s2 x => x.after S1) fun _ _ x => x
theorem assignEach_len {ts : List PySem.Expr} (hn : noStar ts = true) : (assignEach ts env).length = ts.length ∧ (assignEach ts env).findIdx? (·.1) = none := by
  induction ts with
  | nil => exact ⟨rfl, rfl⟩
  | cons t ts ih =>
    obtain ⟨a, b⟩ := ih (noStar_cons hn).2
    rw [each_cons (noStar_cons hn).1]
    refine ⟨congrArg Nat.succ a, ?_⟩
    rw [List.findIdx?_cons, b]; rfl
theorem asg_sound (hm : ∃ o, g.get? sysModules = some o) (W : Wd w K g T) (S : SOps prog w g qt d r) (t : PySem.Expr) {v : V} {c : Value} {Q : Loc → Hp → Prop} (h : asgStep T r sc t v m H Q) (hA : OkB d A) (R : ER g sc env m ρ s.heap) (I : Inv prog w g ρ H (hxs s)) (hr : VR ρ v c) :
    wpAny (model prog w) A (assign t env c) (fun _ => APost prog w g qt sc env ρ s.heap Q) E s := by
  cases t with
  | Name x p =>
    unfold asgStep at h
    dsimp only at h
    split at h
    · rename_i hs
      refine PyProof.Rows.assign_Name (store_local R (by unfold isLoc; rw [hs]) hr fun h' tk R' hsb => ?_)
      have k1 : KeptL env s.heap h' := fun b ob hb e => (hsb.2 b hb).trans e
      exact ⟨_, H, ρ, h, R', kept_inv I R k1, kept_step R R' k1⟩
    · rename_i hs
      refine PyProof.Rows.assign_Name (store_cell R hs hr fun h' a h1 h2 h3 h4 R' hsb => ?_)
      obtain ⟨I1, S1⟩ := own_step (qt := qt) (h' := ⟨h', s.os, s.gens⟩) I h1 h2 h3 h4 hsb
      exact ⟨_, H, ρ, h, R', I1, S1⟩
    · exact h.elim
  | Attribute o n p =>
    rw [assign_Attribute]
    refine wpAny_bind (wpAny_holding (wpAny_mono (S.ev sc o m H _ env A s E ρ h hA R I) (fun co s1 x => ?_) fun _ _ x => x))
    obtain ⟨u, H1, ρ1, x, hr1, I1, S1⟩ := x
    obtain ⟨t, ht, _⟩ := S1.pre
    refine wpAny_bind (wpAny_standAt (wpAny_bind (wpAny_holding (wpAny_mono (setAttr_sound (qt := qt) W I1 hr1 (hr.mono ht) x) (fun _ s2 x => wpAny_release ?_) fun _ _ x => x))))
    exact ((x.toA (R.step S1) fun _ q => q)).after S1.any
  | Subscript o i p =>
    rw [assign_Subscript]
    refine wpAny_bind (wpAny_holding (wpAny_mono (S.ev sc o m H _ env A s E ρ h hA R I) (fun co s1 x => ?_) fun _ _ x => x))
    obtain ⟨u, H1, ρ1, x, hr1, I1, S1⟩ := x
    obtain ⟨t, ht, _⟩ := S1.pre
    refine wpAny_bind (wpAny_holding (wpAny_mono (S.ev sc i m H1 _ env A s1 E ρ1 x hA (R.step S1) I1) (fun ck s2 x => ?_) fun _ _ x => x))
    obtain ⟨k, H2, ρ2, x, hr2, I2, S2⟩ := x
    obtain ⟨t', ht', _⟩ := S2.pre
    refine wpAny_bind (wpAny_standAt (wpAny_bind (wpAny_holding (wpAny_mono (setItem_sound (qt := qt) (by have := hA.2.2.1; lia) I2 (hr1.mono ht') hr2 ((hr.mono ht).mono ht') x) (fun _ s3 x => wpAny_release ?_) fun _ _ x => x))))
    exact ((x.toA ((R.step S1).step S2) fun _ q => q)).after (S1.trans S2).any
  | Tuple ts k p =>
    obtain ⟨hn, h⟩ := brB_pos h
    obtain ⟨e1, e2⟩ := assignEach_len (env := env) hn
    have fin : ∀ {i : Nat} {a : Addr} {o : O} {vs : List V}, v = .ref i → H[i]? = some o → seqItems o = some vs → vs.length = ts.length → asgs r sc ts vs m H Q → wpAny (model prog w) A (assign (.Tuple ts k p) env c) (fun _ => APost prog w g qt sc env ρ s.heap Q) E s := fun {i a o vs} hv hi hx hlen hasg => by
      subst hv
      obtain ⟨a, ha, rfl⟩ := hr
      rw [PyProof.Rows.assign_Tuple]
      refine wpAny_bind (wpAny_standAt ?_)
      unfold unpack
      rw [e1, e2]
      refine wpAny_bind (wpAny_holding (unpack_src hm hA.1 I hi ha hx hlen fun h' tk cs hrs hk => ?_))
      exact wpAny_mono (asgs_go S hA ts vs cs (s := { s with heap := h', toks := tk }) hn hasg hrs (R.step (Step.keeps (qt := qt) hk)) (I.all hk)) (fun _ s2 x => x.after (Step.keeps hk)) fun _ _ x => x
    split at h
    · obtain ⟨o, hi, h⟩ := onO_some h
      split at h
      · exact fin (a := 0) rfl hi rfl h.1 h.2
      · exact fin (a := 0) rfl hi rfl h.1 h.2
      · exact h.elim
    · exact h.elim
  | _ => exact h.elim
end
end Mine
end
section
open PySem PySem.W PyProof.Rows
set_option maxRecDepth 100000
namespace Mine
section
variable {prog : Program} {w : World} {g : HX} {qt : Bool} {d : Nat} {K : Frag} {T : Tabs} {A : Around} {E : Value → Shared → Prop} {s : Shared} {ρ ρ₁ : List Addr} {H H₁ : Hp} {P : Addr → Prop} {sc scope : Scope} {env : Env} {m : Loc} {r r' : Ops} {cl : CallOp} {up : Bool}

abbrev tests (ifs : List PySem.Expr) (env : Env) : Sem Bool := forIn ifs true fun c r => if r = true then do let ok ← isTrue c env (eval c env); pure (ForInStep.yield ok) else pure (ForInStep.yield r)
/-- a comprehension's loop, whatever its target -/
theorem comp_turns {elt tgt it : PySem.Expr} {ifs : List PySem.Expr} {pos : Pos} {i acc : Value} {R : Result → Shared → Prop} (J : Nat → Shared → Prop)
    (turn : ∀ E n s, J n s → wpAny (model prog w) A (pyNext i) (fun x s₁ => match x with
      | none => R (.ok .next) s₁
      | some v => wpAny (model prog w) A (letOwnedTupleGo tgt i v) (fun _ s₂ => wpAny (model prog w) A (assign tgt env v) (fun _ s₃ => wpAny (model prog w) A (tests ifs env) (fun ok s₄ =>
          if ok = true then wpAny (model prog w) A (eval elt env) (fun y s₅ => wpAny (model prog w) A (call (.builtin "list.append") [acc, y]) (fun _ s₆ => ∃ k, k < n ∧ J k s₆) E s₅) E s₄ else ∃ k, k < n ∧ J k s₄) E s₃) E s₂) E s₁) E s)
    (n : Nat) (h : J n s) : codeAny (model prog w) A (.compLoop (.ListComp elt [⟨tgt, it, ifs, 0⟩] scope pos) 0 i acc env) R s := by
  refine codeAny_loop rfl J (fun n s hJ => ?_) n h
  show wpAny _ A ((compTurn (.ListComp elt [⟨tgt, it, ifs, 0⟩] scope pos) 0 i acc env).onRaise _) _ _ s
  refine wpAny_noted ?_
  rw [compTurn_list]
  refine wpAny_bind (wpAny_standAt (wpAny_bind (wpAny_mono (turn _ n s hJ) (fun x s₁ h₁ => ?_) fun _ _ e => e)))
  cases x with
  | none => exact wpAny_pure h₁
  | some v =>
    refine wpAny_bind (wpAny_mono h₁ (fun _ s₂ h₂ => wpAny_bind (wpAny_mono h₂ (fun _ s₃ h₃ => wpAny_bind (wpAny_mono h₃ (fun ok s₄ h₄ => ?_) fun _ _ e => e)) fun _ _ e => e)) fun _ _ e => e)
    cases ok with
    | false => exact wpAny_pure ⟨rfl, h₄⟩
    | true => exact wpAny_bind (wpAny_bind (wpAny_mono h₄ (fun y s₅ h₅ => wpAny_bind (wpAny_mono h₅ (fun _ s₆ h₆ => wpAny_pure (wpAny_pure ⟨rfl, h₆⟩)) fun _ _ e => e)) fun _ _ e => e))

theorem SrcAt.kept {h h' : Heap} {o : O} {a it : Addr} {k : Nat} (X : SrcAt h o a it k) (hk : ∀ b ob, b = it ∨ b = a → h.get? b = some ob → h'.get? b = some ob) : SrcAt h' o a it k := by
  cases o with
  | list ys => obtain ⟨ob, e, x⟩ := X; exact ⟨ob, hk _ _ (.inl rfl) e, x⟩
  | tuple ys => obtain ⟨ob, e, x⟩ := X; exact ⟨ob, hk _ _ (.inl rfl) e, x⟩
  | dictI kvs => obtain ⟨ep, ⟨ob, e, x⟩, ob2, es, e2, y⟩ := X; exact ⟨ep, ⟨ob, hk _ _ (.inl rfl) e, x⟩, ob2, es, hk _ _ (.inr rfl) e2, y⟩
  | range lo hi => exact hk _ _ (.inl rfl) X
  | dictS kvs => exact X.elim
  | dictT kvs => exact X.elim
  | inst C dd => exact X.elim
  | attrs kvs => exact X.elim
theorem iter_self {o : O} {a it : Addr} {k : Nat} {Q : Value → Shared → Prop} (X : SrcAt s.heap o a it k) (q : Q (.ref it) s) : wpAny (model prog w) A (pyIter (.ref it)) Q E s := by
  cases o with
  | list ys => exact wpAny_pyIter_listiter X q
  | tuple ys => exact wpAny_pyIter_tupleiter X q
  | dictI kvs => obtain ⟨ep, x, _⟩ := X; exact wpAny_pyIter_keyiter x q
  | range lo hi => exact wpAny_pyIter_rangeiter X q
  | dictS kvs => exact X.elim
  | dictT kvs => exact X.elim
  | inst C dd => exact X.elim
  | attrs kvs => exact X.elim

theorem bindT_sound {t : PySem.Expr} {v : V} {c : Value} {Q : Loc → Prop} {R' : Unit → Shared → Prop} (hm : ∃ ob, g.get? sysModules = some ob) (hA : OkB d A) (h : bindT sc H t v m Q) (hr : VR ρ v c) (R : ER g sc env m ρ s.heap) (I : Inv prog w g ρ H (hxs s))
    (q : ∀ m' (s' : Shared), Q m' → ER g sc env m' ρ s'.heap → Inv prog w g ρ H (hxs s') → KeptL env s.heap s'.heap → R' () s') : wpAny (model prog w) A (assign t env c) R' E s := by
  unfold bindT at h
  split at h
  · obtain ⟨hl, h⟩ := brB_pos h
    refine PyProof.Rows.assign_Name (store_local R hl hr fun h' tk R2 hs => ?_)
    have k1 : KeptL env s.heap h' := fun b ob hb e => (hs.2 b hb).trans e
    exact q _ { s with heap := h', toks := tk } h R2 (kept_inv I R k1) k1
  · obtain ⟨xs, hx, h⟩ := onO_some h
    exact tgt_sound hm hA hx h hr R I q

theorem testL_sound (S : SOps prog w g qt d r) (hA : OkB d A) {ifs : List PySem.Expr} {Q : Bool → Hp → Prop} (h : testL r sc ifs m H Q) (R : ER g sc env m ρ s.heap) (I : Inv prog w g ρ H (hxs s)) :
    wpAny (model prog w) A (tests ifs env) (BPost prog w g qt ρ s.heap Q) E s := by
  unfold testL at h
  split at h
  · exact wpAny_tests_nil ⟨H, ρ, h, I, .refl⟩
  · exact wpAny_tests_one (S.ts sc _ m H Q env A s E ρ h hA R I)
  · exact h.elim

/-- one turn: the target bound, the tests, the item -/
theorem turn_sound (hm : ∃ ob, g.get? sysModules = some ob) (S : SOps prog w g qt d r) (hA : OkB d A) {elt tgt : PySem.Expr} {ifs : List PySem.Expr} {v : V} {c : Value} {Q : Option V → Hp → Prop} {k1 : Value → Shared → Prop} {k2 : Shared → Prop}
    (h : compTurnA r sc elt tgt ifs m v H Q) (hr : VR ρ v c) (R : ER g sc env (freeOf sc m) ρ s.heap) (I : Inv prog w g ρ H (hxs s))
    (q1 : ∀ y cy H' ρ' (hmid : HX) (s' : Shared), Q (some y) H' → VR ρ' y cy → Inv prog w g ρ' H' (hxs s') → Inv prog w g ρ H hmid → (∃ m', ER g sc env m' ρ hmid.toHeap) → KeptL env s.heap hmid.toHeap → Step nobody qt ρ ρ' hmid.toHeap s'.heap → k1 cy s')
    (q2 : ∀ H' ρ' (hmid : HX) (s' : Shared), Q .none H' → Inv prog w g ρ' H' (hxs s') → Inv prog w g ρ H hmid → (∃ m', ER g sc env m' ρ hmid.toHeap) → KeptL env s.heap hmid.toHeap → Step nobody qt ρ ρ' hmid.toHeap s'.heap → k2 s') :
    wpAny (model prog w) A (assign tgt env c) (fun _ s₃ => wpAny (model prog w) A (tests ifs env) (fun ok s₄ => if ok = true then wpAny (model prog w) A (eval elt env) k1 E s₄ else k2 s₄) E s₃) E s := by
  refine bindT_sound hm hA h hr R I fun m' s1 h R1 I1 kl => ?_
  refine wpAny_mono (testL_sound S hA h R1 I1) (fun ok s2 x => ?_) fun _ _ e => e
  obtain ⟨H2, ρ2, x, I2, S2⟩ := x
  cases ok with
  | false => exact q2 H2 ρ2 (hxs s1) s2 x I2 I1 ⟨m', R1⟩ kl S2
  | true =>
    rw [if_pos rfl]
    refine wpAny_mono (S.ev _ elt m' H2 _ env A s2 E ρ2 x hA (R1.step S2) I2) (fun cy s3 x => ?_) fun _ _ e => e
    obtain ⟨y, H3, ρ3, x, hy, I3, S3⟩ := x
    exact q1 y cy H3 ρ3 (hxs s1) s3 x hy I3 I1 ⟨m', R1⟩ kl (S2.trans S3)

theorem drop_at {α : Type} {xs : List α} {i : Nat} {v : α} (h : xs[i]? = some v) : xs.drop i = v :: xs.drop (i + 1) := by
  have hlt := List.getElem?_eq_some_iff.mp h
  rw [List.drop_eq_getElem_cons hlt.1, hlt.2]

inductive ClI (prog : Program) (w : World) (g : HX) (qt : Bool) (r : Ops) (scope : Scope) (elt tgt : PySem.Expr) (ifs : List PySem.Expr) (m : Loc) (ii : Nat) (o : O) (a I D C : Addr) (xs : List V) (QF : List V → Hp → Prop) (ρ1 : List Addr) (hp1 : Heap) (k : Nat) (s' : Shared) : Prop
  | mk (i : Nat) (acc : List V) (H2 : Hp) (ρ2 : List Addr) (cs : List Value) (h0 : k = xs.length + 1 - i) (h1 : i ≤ xs.length) (h2 : cmpL (compTurnA r scope elt tgt ifs m) (fun H' => H'[ii]? = some o) (xs.drop i) acc H2 QF) (h3 : Inv prog w g ρ2 H2 (hxs s')) (h4 : Step nobody qt ρ1 ρ2 hp1 s'.heap) (h5 : (∀ z, z = I ∨ z = D ∨ z = C → z ∉ ρ2)) (h6 : s'.heap.PlainList D cs.toArray) (h7 : VRs ρ2 acc cs) (h8 : acc.length ≤ i) (h9 : (∃ mC, s'.heap.Ns C mC)) (h10 : SrcAt s'.heap o a I i) (h11 : H2[ii]? = some o) : ClI prog w g qt r scope elt tgt ifs m ii o a I D C xs QF ρ1 hp1 k s'
/-- the loop of a comprehension over a source that stands -/
theorem comp_loop (hm : ∃ ob, g.get? sysModules = some ob) {qs : Bool} (S : SOps prog w g qs d r) (hA : OkB d A) (hqs : ∀ {ρ ρ' : List Addr} {h h' : Heap}, Step nobody qs ρ ρ' h h' → Step nobody qt ρ ρ' h h') {elt tgt it : PySem.Expr} {ifs : List PySem.Expr} {pos : Pos}
    {ii : Nat} {o : O} {a I D C : Addr} {xs : List V} {QF : List V → Hp → Prop} {RR : Result → Shared → Prop} {s1 s2 : Shared} {ρ1 : List Addr} {H1 : Hp}
    (hs : scopeOk sc scope = true) (R1 : ER g sc env m ρ1 s1.heap) (I1 : Inv prog w g ρ1 H1 (hxs s1)) (hi : H1[ii]? = some o) (ha : ρ1[ii]? = some a) (hx : itemsOf o = some xs) (hd : (∃ kvs, o = .dictI kvs) → qs = true) (hlen : xs.length < lim)
    (hID : I ≠ D) (hIC : I ≠ C) (hDC : D ≠ C) (hZ : ∀ z, z = I ∨ z = D ∨ z = C → s1.heap.get? z = none) (hlo : g.objs.size ≤ C)
    (hk : ∀ b ob, s1.heap.get? b = some ob → s2.heap.get? b = some ob) (X : SrcAt s2.heap o a I 0) (hD : s2.heap.PlainList D #[]) (hn : ∃ mC, s2.heap.Ns C mC)
    (h : cmpL (compTurnA r scope elt tgt ifs m) (fun H' => H'[ii]? = some o) xs [] H1 QF)
    (fin : ∀ acc H3 ρ3 cs (s3 : Shared), QF acc H3 → Inv prog w g ρ3 H3 (hxs s3) → Step nobody qt ρ1 ρ3 s1.heap s3.heap → D ∉ ρ3 → C ∉ ρ3 → s3.heap.PlainList D cs.toArray → VRs ρ3 acc cs → (∃ mC, s3.heap.Ns C mC) → RR (.ok .next) s3) (hos : s2.os = s1.os) (hgs : s2.gens = s1.gens) :
    codeAny (model prog w) A (.compLoop (.ListComp elt [⟨tgt, it, ifs, 0⟩] scope pos) 0 (.ref I) (.ref D) (compEnvC scope (clOf env scope.names []) C env)) RR s2 := by
  have hl : lim = 1048576 := rfl
  have hz := sizeLine_eq
  obtain ⟨hc0, hc1, hc2⟩ := closure_of hs R1
  have notin : ∀ z, (z = I ∨ z = D ∨ z = C) → z ∉ ρ1 := fun z hz => fresh_not I1 (hZ z hz)
  have old : ∀ b ob, s1.heap.get? b = some ob → ¬ (b = I ∨ b = D ∨ b = C) := fun b ob e z => by rw [hZ b z] at e; cases e
  have haz : ¬ (a = I ∨ a = D ∨ a = C) := fun z => notin a z (List.mem_of_getElem? ha)
  have hcell : ∀ x c, clsK (env.kindOf x) = 2 → env.cells.lookup x = some c → c ≠ C := fun x c hx e z => by
    obtain ⟨c', e', _, _, _, ov, ⟨ob, e2, _⟩, _⟩ := R1.cells x hx
    rw [e] at e'; cases e'
    exact old c ob e2 (.inr (.inr z))
  refine comp_turns (ClI prog w g qt r scope elt tgt ifs m ii o a I D C xs QF ρ1 s1.heap) ?_ (xs.length + 1)
    ⟨0, [], H1, ρ1, [], rfl, Nat.zero_le _, by (first | exact h | simpa using h), I1.all hk hos hgs, Step.keeps hk, notin, hD, .nil, Nat.le_refl _, hn, X, hi⟩
  rintro E' n s' ⟨i, acc, H2, ρ2, cs, rfl, hle, hc, I2, S2, hZ2, hD2, hv2, hal, ⟨mC, hn2⟩, X2, ho⟩
  have ha2 : ρ2[ii]? = some a := by obtain ⟨t, ht, _⟩ := S2.pre; exact pre_get ht ha
  refine src_next hA.1 I2 ho ha2 hx X2 (hZ2 I (.inl rfl)) (fun hlt h' hk' => ?_) fun v c h' tk hv hr X3 hk' => ?_
  · have e : xs.drop i = [] := List.drop_eq_nil_of_le hlt
    rw [e] at hc
    have kz : ∀ b ob, ¬ (b = I ∨ b = D ∨ b = C) → s'.heap.get? b = some ob → h'.get? b = some ob := fun b ob hb e => hk' b ob (fun z => hb (.inl z)) e
    obtain ⟨k0, e0⟩ := hD2
    obtain ⟨o1, es, ep, e1, x1⟩ := hn2
    exact fin acc H2 ρ2 cs { s' with heap := h' } hc (I2.off I1 hZ hZ2 kz) (S2.off hZ kz) (hZ2 D (.inr (.inl rfl))) (hZ2 C (.inr (.inr rfl))) ⟨k0, hk' D _ (Ne.symm hID) e0⟩ hv2 ⟨mC, o1, es, ep, hk' C _ (Ne.symm hIC) e1, x1⟩
  · refine owned_go (s := { s' with heap := h', toks := tk }) X3 ?_
    rw [drop_at hv] at hc
    have kz : ∀ b ob, ¬ (b = I ∨ b = D ∨ b = C) → s'.heap.get? b = some ob → h'.get? b = some ob := fun b ob hb e => hk' b ob (fun z => hb (.inl z)) e
    have I3 := I2.off (h₂ := ⟨h', s'.os, s'.gens⟩) I1 hZ hZ2 kz
    have S3 := S2.off (h₂ := h') hZ kz
    have hn3 : h'.Ns C mC := by obtain ⟨o1, es, ep, e1, x1⟩ := hn2; exact ⟨o1, es, ep, hk' C _ (Ne.symm hIC) e1, x1⟩
    have hD3 : h'.PlainList D cs.toArray := by obtain ⟨k0, e0⟩ := hD2; exact ⟨k0, hk' D _ (Ne.symm hID) e0⟩
    have R3 := comp_ER hs (R1.step S3) hc1 hc2 hn3 (hZ2 C (.inr (.inr rfl))) hlo hcell
    have hlt := (List.getElem?_eq_some_iff.mp hv).1
    have back : ∀ {ρ' : List Addr} {H' : Hp} {hmid : HX} {s5 : Shared}, Inv prog w g ρ2 H2 hmid → Inv prog w g ρ' H' (hxs s5) → (∃ m', ER g scope (compEnvC scope (clOf env scope.names []) C env) m' ρ2 hmid.toHeap) → KeptL (compEnvC scope (clOf env scope.names []) C env) h' hmid.toHeap → Step nobody qs ρ2 ρ' hmid.toHeap s5.heap → H'[ii]? = some o →
        Step nobody qt ρ1 ρ' s1.heap s5.heap ∧ (∀ z, z = I ∨ z = D ∨ z = C → z ∉ ρ') ∧ s5.heap.PlainList D cs.toArray ∧ (∃ mC, s5.heap.Ns C mC) ∧ SrcAt s5.heap o a I (i + 1) := fun {ρ' H' hmid s5} Imid I5 Rm kl S5 ho5 => by
      obtain ⟨m', Rm⟩ := Rm
      obtain ⟨mL, hnm, _⟩ := Rm.ns
      have hnm : hmid.Ns C mL := hnm
      have Xm := X3.kept (h' := hmid.toHeap) fun b ob hb e => kl b ob (fun z => by
        have z : b = C := z
        rcases hb with hb | hb
        · exact hIC (hb ▸ z)
        · exact haz (.inr (.inr (hb ▸ z)))) e
      obtain ⟨k0, e0⟩ := hD3
      have eD : hmid.get? D = some _ := kl D _ hDC e0
      have live : ∀ z, z = I ∨ z = D ∨ z = C → ∃ ob, hmid.get? z = some ob := fun z hz => by
        rcases hz with rfl | rfl | rfl
        · obtain ⟨ob, _, e, _⟩ := Xm.cls; exact ⟨ob, e⟩
        · exact ⟨_, eD⟩
        · exact Heap.Ns.live hnm
      have hZ5 : ∀ z, z = I ∨ z = D ∨ z = C → z ∉ ρ' := fun z hz hm => by
        obtain ⟨ob, e⟩ := live z hz
        exact hZ2 z hz (S5.mem hm e)
      refine ⟨(S3.off (h₂ := hmid.toHeap) hZ fun b ob hb e => kl b ob (fun z => hb (.inr (.inr z))) e).trans (hqs S5), hZ5, ⟨k0, S5.pres D _ eD (hZ2 D (.inr (.inl rfl))) (fun z => z)⟩, ?_, src_keep Imid ho ha2 Xm (hZ2 I (.inl rfl)) (fun z => z) S5 I5 ho5 hd⟩
      obtain ⟨o1, es, ep, e1, x1⟩ := hnm
      exact ⟨mL, o1, es, ep, S5.pres C _ e1 (hZ2 C (.inr (.inr rfl))) (fun z => z), x1⟩
    refine turn_sound (s := { s' with heap := h', toks := tk }) hm S hA hc hr R3 I3 (fun y cy H5 ρ5 hmid s5 hq hy I5 Imid Rm kl S5 => ?_) fun H5 ρ5 hmid s5 hq I5 Imid Rm kl S5 => ?_
    · obtain ⟨ho5, hq⟩ := hq
      obtain ⟨S6, hZ6, hD6, ⟨mC6, hn6⟩, X6⟩ := back Imid I5 Rm kl S5 ho5
      obtain ⟨t, ht, _⟩ := S5.pre
      have hcs := hv2.length
      refine wpAny_list_append_plain hD6 (fun h6 hp hs6 => ⟨xs.length + 1 - (i + 1), Nat.sub_lt_sub_left (Nat.lt_succ_of_lt hlt) (Nat.lt_succ_self _), i + 1, acc ++ [y], H5, ρ5, cs ++ [cy], rfl, hlt, hq, ?_, ?_, hZ6, ?_, (hv2.mono ht).append (.cons hy .nil), by simp; (first | assumption | lia), ⟨mC6, hn6.sameBut hs6 (Ne.symm hDC)⟩, ?_, ho5⟩) (by simp only [List.size_toArray]; lia)
      · exact I5.off (h₂ := ⟨h6, s5.os, s5.gens⟩) I1 hZ hZ6 fun b ob hb e => (hs6.2 b (fun z => hb (.inr (.inl z)))).trans e
      · exact S6.off (h₂ := h6) hZ fun b ob hb e => (hs6.2 b (fun z => hb (.inr (.inl z)))).trans e
      · obtain ⟨n', e'⟩ := hp; exact ⟨n', by rw [e']; simp⟩
      · exact X6.kept fun b ob hb e => (hs6.2 b (fun z => by
          rcases hb with hb | hb
          · exact hID (hb ▸ z)
          · exact haz (.inr (.inl (hb ▸ z))))).trans e
    · obtain ⟨ho5, hq⟩ := hq
      obtain ⟨S6, hZ6, hD6, hn6, X6⟩ := back Imid I5 Rm kl S5 ho5
      obtain ⟨t, ht, _⟩ := S5.pre
      exact ⟨xs.length + 1 - (i + 1), Nat.sub_lt_sub_left (Nat.lt_succ_of_lt hlt) (Nat.lt_succ_self _), i + 1, acc, H5, ρ5, cs, rfl, hlt, hq, I5, S6, hZ6, hD6, hv2.mono ht, by (first | exact Nat.le_succ_of_le (by assumption) | lia), hn6, X6, ho5⟩
end
end Mine
end
section
open PySem PySem.W PyProof.Rows
set_option maxRecDepth 100000
namespace Mine
section
variable {prog : Program} {w : World} {g : HX} {qt : Bool} {d : Nat} {K : Frag} {T : Tabs} {A : Around} {E : Value → Shared → Prop} {s : Shared} {ρ ρ₁ : List Addr} {H H₁ : Hp} {P : Addr → Prop} {sc scope : Scope} {env : Env} {m : Loc} {r r' : Ops} {cl : CallOp} {up : Bool}

theorem overV_spec {q : Bool} {v : V} {Q : List V → (Hp → Prop) → Prop} (h : overV q H v Q) : ∃ i o xs, v = .ref i ∧ H[i]? = some o ∧ itemsOf o = some xs ∧ ((∃ kvs, o = .dictI kvs) → q = true) ∧ Q xs fun H' => H'[i]? = some o := by
  unfold overV at h
  split at h
  · rename_i i
    obtain ⟨o, hi, h⟩ := onO_some h
    cases q with
    | true => obtain ⟨xs, hx, h⟩ := onO_some h; exact ⟨i, o, xs, rfl, hi, hx, fun _ => rfl, h⟩
    | false =>
      obtain ⟨xs, hx, h⟩ := onO_some h
      refine ⟨i, o, xs, rfl, hi, ?_, (fun ⟨kvs, e⟩ => by rw [e] at hx; cases hx), h⟩
      cases o <;> first | exact hx | cases hx
  · exact h.elim
theorem notSet_fold {e : PySem.Expr} (h : notSet e = true) (env : Env) (x : Value) : foldedSetIterable e env x = pure x := by
  cases e <;> first | rfl | cases h

/-- a comprehension, its list handed on -/
theorem comp_run (hm : ∃ ob, g.get? sysModules = some ob) (hg : ∀ (ρ : List Addr) (H : Hp) (h : HX), Inv prog w g ρ H h → g.objs.size ≤ h.objs.size) (S : SOps prog w g qt d r) (S' : SOps prog w g true d r') {elt : PySem.Expr} {gens : List Comprehension} {pos : Pos} {Q : V → Hp → Prop} {use : Option (Value → Sem Unit)} {Q' : Value → Shared → Prop}
    (h : evStep T cl up r r' sc (.ListComp elt gens scope pos) m H Q) (hA : OkB d A) (R : ER g sc env m ρ s.heap) (I : Inv prog w g ρ H (hxs s))
    (fin : ∀ acc H3 ρ3 cs D C (s3 : Shared), newO H3 (.list acc) Q → Inv prog w g ρ3 H3 (hxs s3) → Step nobody qt ρ ρ3 s.heap s3.heap → s.heap.get? D = none → s.heap.get? C = none → C ≠ D → D ∉ ρ3 → C ∉ ρ3 → s3.heap.PlainList D cs.toArray → VRs ρ3 acc cs → (∃ mC, s3.heap.Ns C mC) →
      compPost (model prog w) A E use Q' (.ref D) C (.ok .next) s3) :
    wpAny (model prog w) A (comprehension (.ListComp elt gens scope pos) scope env (firstIterPos gens pos) (newList []) (firstAsync gens) (firstIter gens env) use) Q' E s := by
  cases gens with | nil => exact False.elim h | cons ge gens =>
  obtain ⟨tgt, it, ifs, a⟩ := ge
  cases gens with | cons => exact False.elim h | nil =>
    obtain ⟨hc, h0⟩ := brB_pos h
    clear h
    simp only [Bool.and_eq_true, decide_eq_true_eq] at hc
    obtain ⟨⟨rfl, hs⟩, hns⟩ := hc
    obtain ⟨b1, b2, b3, b4⟩ := scope_spec hs
    refine wpAny_comprehension_free (use := use) rfl (notSet_fold hns env) (closure_of hs R).1 b1 b3 (wpAny_mono (S.ev sc it m H _ env A s E ρ h0 hA R I) (fun x s1 y => ?_) fun _ _ e => e)
    obtain ⟨v, H1, ρ1, y, hr, I1, S1⟩ := y
    obtain ⟨ii, o, xs, rfl, hi, hx, hd, hlen, hcm⟩ := overV_spec y
    obtain ⟨a, ha, rfl⟩ := hr
    have R1 := R.step S1
    have hcl : clOf env scope.names [] = clOf env scope.names [] := rfl
    refine src_start hm I1 hi ha hx fun ob X => ?_
    refine wpAny_newObj_type (wpAny_newFunctionEnv b2 (by intro y hy; simp at hy) (fun h1 hns1 hsb1 => ?_) b1)
    dsimp only at hns1 hsb1 ⊢
    generalize hG1 : s1.heap.push ob = G1 at *
    generalize hG2 : G1.push { cls := .type "list", dict := none, data := .seq ([] : List Value).toArray } = G2 at *
    have z1 : G1.objs.size = s1.heap.objs.size + 1 := by rw [← hG1, Heap.size_push]
    have z2 : G2.objs.size = s1.heap.objs.size + 2 := by rw [← hG2, Heap.size_push, z1]
    have k1 : ∀ b o, s1.heap.get? b = some o → G1.get? b = some o := fun b o e => hG1 ▸ Heap.get?_push_of_some _ e
    have k2 : ∀ b o, G1.get? b = some o → G2.get? b = some o := fun b o e => hG2 ▸ Heap.get?_push_of_some _ e
    have k3 : ∀ b o, G2.get? b = some o → h1.get? b = some o := fun b o e => hsb1.extBut b o (Nat.ne_of_lt (Heap.lt_size e)) (Heap.get?_push_of_some _ e)
    have hnone : ∀ z, z = s1.heap.objs.size ∨ z = G1.objs.size ∨ z = G2.objs.size → s1.heap.get? z = none := fun z hz => none_ge (by lia)
    have hbase : ∀ z, s1.heap.get? z = none → s.heap.get? z = none := fun z e => by
      cases e1 : s.heap.get? z with
      | none => rfl
      | some o1 => obtain ⟨o2, e2⟩ := S1.live z o1 e1; rw [e] at e2; cases e2
    have hDp : h1.PlainList G1.objs.size #[] := ⟨0, k3 _ _ (hG2 ▸ Heap.get?_push_size _ rfl)⟩
    have key : ∀ {qs : Bool} {rs : Ops}, SOps prog w g qs d rs → (∀ {ρ ρ' : List Addr} {h h' : Heap}, Step nobody qs ρ ρ' h h' → Step nobody qt ρ ρ' h h') → ((∃ kvs, o = .dictI kvs) → qs = true) → cmpL (compTurnA rs scope elt tgt ifs m) (fun H' => H'[ii]? = some o) xs [] H1 (fun ys H2 => newO H2 (.list ys) Q) →
        ∀ (s2 : Shared), (s2.heap = h1 ∧ s2.os = s1.os ∧ s2.gens = s1.gens) → codeAny (model prog w) A (.compLoop (.ListComp elt [⟨tgt, it, ifs, 0⟩] scope pos) 0 (.ref s1.heap.objs.size) (.ref G1.objs.size) (compEnvC scope (clOf env scope.names []) G2.objs.size env)) (compPost (model prog w) A E use Q' (.ref G1.objs.size) G2.objs.size) s2 := fun {qs rs} Sq hqs hdq hcm s2 ⟨e2, eo, eg⟩ => by
      refine comp_loop hm Sq hA hqs hs R1 I1 hi ha hx hdq hlen (Nat.ne_of_lt (by lia)) (Nat.ne_of_lt (by lia)) (Nat.ne_of_lt (by lia)) hnone (Nat.le_trans (show g.objs.size ≤ s1.heap.objs.size from hg _ _ _ I1) (by lia)) (s2 := s2) (by rw [e2]; exact fun b ob e => k3 _ _ (k2 _ _ (k1 _ _ e))) ?_ (by rw [e2]; exact hDp) (by rw [e2]; exact ⟨_, hns1⟩) hcm (fun acc H3 ρ3 cs s3 q I3 S3 n1 n2 hp hv hn => ?_) eo eg
      · rw [e2]; exact X.kept fun b ob _ e => k3 _ _ (k2 _ _ e)
      · exact fin acc H3 ρ3 cs _ _ s3 q I3 (S1.trans S3) (hbase _ (hnone _ (.inr (.inl rfl)))) (hbase _ (hnone _ (.inr (.inr rfl)))) (Nat.ne_of_gt (by lia)) n1 n2 hp hv hn
    have loop : ∀ (s2 : Shared), (s2.heap = h1 ∧ s2.os = s1.os ∧ s2.gens = s1.gens) → codeAny (model prog w) A (.compLoop (.ListComp elt [⟨tgt, it, ifs, 0⟩] scope pos) 0 (.ref s1.heap.objs.size) (.ref G1.objs.size) (compEnvC scope (clOf env scope.names []) G2.objs.size env)) (compPost (model prog w) A E use Q' (.ref G1.objs.size) G2.objs.size) s2 := by
      cases hq : (quietE 5 elt && ifs.all (quietE 5)) with
      | true => rw [hq] at hcm hd; exact key S' (fun x => x.loose) (fun _ => rfl) hcm
      | false => rw [hq] at hcm hd; exact key S (fun x => x) (fun z => by cases hd z) hcm
    exact codeAny_compStart_list (loop _ ⟨rfl, rfl, rfl⟩) (iter_self (X.kept fun b ob _ e => k3 _ _ (k2 _ _ e)) (loop _ ⟨rfl, rfl, rfl⟩))

theorem Wd.gsz (W : Wd w K g T) (ρ : List Addr) (H : Hp) (h : HX) (I : Inv prog w g ρ H h) : g.objs.size ≤ h.objs.size := by
  obtain ⟨a, o, e, z⟩ := W.last
  have := Heap.lt_size (I.stays a o e)
  rw [z]; exact this
/-- the list of a comprehension, its frame let go -/
theorem Step.taken {q : Bool} {ρ' : List Addr} {h h' : Heap} {D : Addr} (S : Step P q ρ ρ' h h') (hD : h.get? D = none) : Step P q ρ (ρ' ++ [D]) h h' := by
  obtain ⟨t, ht, hn⟩ := S.pre
  refine ⟨⟨t ++ [D], by rw [ht, List.append_assoc], fun b hb => ?_⟩, S.pres, S.live, S.dm⟩
  rcases List.mem_append.mp hb with h1 | h1
  · exact hn b h1
  · rw [List.mem_singleton.mp h1]; exact hD
theorem comp_late {D C : Addr} {h3 : HX} {acc : List V} {cs : List Value} {H3 : Hp} {ρ3 : List Addr} {Q : V → Hp → Prop} {s' : Shared} (I0 : Inv prog w g ρ H (hxs s)) (q : newO H3 (.list acc) Q) (I3 : Inv prog w g ρ3 H3 h3) (S3 : Step nobody qt ρ ρ3 s.heap h3.toHeap)
    (hD : s.heap.get? D = none) (hC : s.heap.get? C = none) (hne : C ≠ D) (n1 : D ∉ ρ3) (n2 : C ∉ ρ3) (hp : h3.PlainList D cs.toArray) (hv : VRs ρ3 acc cs) (hk : ∀ b ob, b ≠ C → h3.get? b = some ob → s'.heap.get? b = some ob) (hos : s'.os = h3.os := by rfl) (hgs : s'.gens = h3.gens := by rfl) :
    EPost prog w g qt ρ s.heap Q (.ref D) s' := by
  have hZ : ∀ a, a = C → s.heap.get? a = none := fun a z => z ▸ hC
  have I4 : Inv prog w g ρ3 H3 (hxs s') := I3.off (Z := fun a => a = C) I0 hZ (fun a z => z ▸ n2) hk hos hgs
  have S4 : Step nobody qt ρ ρ3 s.heap s'.heap := S3.off (Z := fun a => a = C) hZ hk
  obtain ⟨n, e⟩ := hp
  exact EPost.late (o := O.list acc) I0 S4 I4 hD n1 ⟨cs, n, hk D _ (Ne.symm hne) e, hv.mono rfl⟩ q
theorem comp_ev (hm : ∃ ob, g.get? sysModules = some ob) (W : Wd w K g T) (S : SOps prog w g qt d r) (S' : SOps prog w g true d r') (elt : PySem.Expr) (gens : List Comprehension) (scope : Scope) (pos : Pos) (sc : Scope) (m : Loc) (H : Hp) (Q : V → Hp → Prop) (env : Env) (A : Around) (s : Shared) (E : Value → Shared → Prop) (ρ : List Addr)
    (h : evStep T cl up r r' sc (.ListComp elt gens scope pos) m H Q) (hA : OkB d A) (R : ER g sc env m ρ s.heap) (I : Inv prog w g ρ H (hxs s)) : wpAny (model prog w) A (eval (.ListComp elt gens scope pos) env) (EPost prog w g qt ρ s.heap Q) E s := by
  rw [eval_ListComp]
  refine comp_run hm W.gsz S S' h hA R I fun acc H3 ρ3 cs D C s3 q I3 S3 hD hC hne n1 n2 hp hv hn => ?_
  obtain ⟨mC, hn⟩ := hn
  exact ⟨mC, hn, fun h' hs => comp_late (s' := { s3 with heap := h' }) I q I3 S3 hD hC hne n1 n2 hp hv fun b ob hb e => (hs.2 b hb).trans e⟩
theorem comp_use (hm : ∃ ob, g.get? sysModules = some ob) (W : Wd w K g T) (S : SOps prog w g qt d r) (S' : SOps prog w g true d r') (sc : Scope) (elt : PySem.Expr) (gens : List Comprehension) (scope : Scope) (pos : Pos) (x : Str) (px : Pos) (m : Loc) (H : Hp) (Q : Loc → Hp → Prop) (env : Env) (A : Around) (s : Shared) (E : Value → Shared → Prop) (ρ : List Addr)
    (h : evStep T cl up r r' sc (.ListComp elt gens scope pos) m H (fun v H1 => Q ((x, v) :: m) H1)) (hx : isLoc sc x = true) (hA : OkB d A) (R : ER g sc env m ρ s.heap) (I : Inv prog w g ρ H (hxs s)) :
    wpAny (model prog w) A (evalThenUse (.ListComp elt gens scope pos) env (assign (.Name x px) env)) (fun _ => APost prog w g qt sc env ρ s.heap Q) E s := by
  show wpAny (model prog w) A (do let _ ← comprehension (.ListComp elt gens scope pos) scope env (firstIterPos gens pos) (newList []) (firstAsync gens) (firstIter gens env) (some (assign (.Name x px) env)); pure ()) _ E s
  refine wpAny_bind (comp_run (Q' := fun _ s' => wpAny (model prog w) A (pure ()) (fun _ => APost prog w g qt sc env ρ s.heap Q) E s') hm W.gsz S S' h hA R I fun acc H3 ρ3 cs D C s3 q I3 S3 hD hC hne n1 n2 hp hv hn => ?_)
  obtain ⟨mC, hn⟩ := hn
  have live := R.ns
  obtain ⟨mL, hnL, _⟩ := live
  obtain ⟨oL, eL⟩ := Heap.Ns.live hnL
  have hLD : env.locals ≠ D := fun z => by rw [z, hD] at eL; cases eL
  have hLC : env.locals ≠ C := fun z => by rw [z, hC] at eL; cases eL
  obtain ⟨n, e⟩ := hp
  have I4 : Inv prog w g (ρ3 ++ [D]) (H3 ++ [O.list acc]) (hxs s3) := I3.push n1 (I.gfree hD) ⟨cs, n, e, hv.mono rfl⟩
  have S4 := S3.taken hD
  have hr4 : VR (ρ3 ++ [D]) (.ref H3.length) (.ref D) := ⟨D, by rw [← I3.len]; simp, rfl⟩
  refine PyProof.Rows.assign_Name (store_local (R.step S4) hx hr4 fun h5 tk R5 hs5 => ?_)
  refine ⟨mC, hn.sameBut hs5 (Ne.symm hLC), fun h6 hs6 => wpAny_pure ?_⟩
  have hZ : ∀ a, a = C → s.heap.get? a = none := fun a z => z ▸ hC
  have hC4 : C ∉ ρ3 ++ [D] := fun z => by
    rcases List.mem_append.mp z with z | z
    · exact n2 z
    · exact hne (List.mem_singleton.mp z)
  have k5 : KeptL env s3.heap h5 := fun b ob hb e => (hs5.2 b hb).trans e
  have I5 := kept_inv (h' := ⟨h5, s3.os, s3.gens⟩) I4 (R.step S4) k5
  have k6 : ∀ b ob, ¬ b = C → h5.get? b = some ob → h6.get? b = some ob := fun b ob hb e => (hs6.2 b hb).trans e
  exact ⟨_, _, _, q, R5.off (Z := fun a => a = C) R hZ k6, I5.off (Z := fun a => a = C) I hZ (fun a z => z ▸ hC4) k6, (S4.any.trans (kept_step (R.step S4) R5 k5)).off (Z := fun a => a = C) hZ k6⟩
end
end Mine
end
section
open PySem PySem.W PyProof.Rows
set_option maxRecDepth 100000
namespace Mine
section
variable {prog : Program} {w : World} {g : HX} {qt : Bool} {d : Nat} {K : Frag} {T : Tabs} {A : Around} {E : Value → Shared → Prop} {s : Shared} {ρ ρ₁ : List Addr} {H H₁ : Hp} {P : Addr → Prop} {sc scope : Scope} {env : Env} {m : Loc} {r r' : Ops} {cl : CallOp} {up : Bool}

/-! ## tests -/
theorem ts_sound (hm : ∃ o, g.get? sysModules = some o) (S : SOps prog w g qt d r) (e : PySem.Expr) {Q : Bool → Hp → Prop} (h : tsStep r sc e m H Q) (hA : OkB d A) (R : ER g sc env m ρ s.heap) (I : Inv prog w g ρ H (hxs s)) :
    wpAny (model prog w) A (isTrue e env (eval e env)) (BPost prog w g qt ρ s.heap Q) E s := by
  have plain : (r.ev sc e m H fun u H1 => match u with | .bool c => Q c H1 | _ => False) → isTrue e env (eval e env) = (do let v ← eval e env; standAt e.pos; holding [v] (truthy v)) → wpAny (model prog w) A (isTrue e env (eval e env)) (BPost prog w g qt ρ s.heap Q) E s := fun h he => by
    refine isTrue_plain (wpAny_mono (S.ev sc e m H _ env A s E ρ h hA R I) (fun c s1 x => ?_) fun _ _ x => x) he
    obtain ⟨u, H1, ρ1, x, hr, I1, S1⟩ := x
    cases u with
    | bool c' => cases hr; exact wpAny_truthy_bool ⟨H1, ρ1, x, I1, S1⟩
    | _ => exact x.elim
  cases e with
  | UnaryOp op x p =>
    cases op with
    | Not =>
      refine isTrue_not (wpAny_mono (S.ts sc x m H _ env A s E ρ h hA R I) (fun c s1 x => ?_) fun _ _ x => x)
      exact by obtain ⟨a, b, q, i, t⟩ := x; exact ⟨a, b, q, i, t⟩
    | _ => exact plain h rfl
  | BoolOp op es p =>
    cases op with
    | And =>
      cases es with | nil => exact h.elim | cons a es =>
      cases es with | nil => exact h.elim | cons b es =>
      cases es with | cons => exact h.elim | nil =>
        refine isTrue_and (wpAny_mono (S.ts sc a m H _ env A s E ρ h hA R I) (fun c s1 x => ?_) fun _ _ x => x)
        obtain ⟨H1, ρ1, x, I1, S1⟩ := x
        cases c with
        | false => exact ⟨H1, ρ1, x, I1, S1⟩
        | true =>
          refine isTrue_and (wpAny_mono (S.ts sc b m H1 _ env A s1 E ρ1 x hA (R.step S1) I1) (fun c s2 x => ?_) fun _ _ x => x)
          cases c with
          | false => exact x.after S1
          | true => exact isTrue_and_nil (x.after S1)
    | Or =>
      cases es with | nil => exact h.elim | cons a es =>
      cases es with | nil => exact h.elim | cons b es =>
      cases es with | cons => exact h.elim | nil =>
        refine isTrue_or (wpAny_mono (S.ts sc a m H _ env A s E ρ h hA R I) (fun c s1 x => ?_) fun _ _ x => x)
        obtain ⟨H1, ρ1, x, I1, S1⟩ := x
        cases c with
        | true => exact ⟨H1, ρ1, x, I1, S1⟩
        | false =>
          refine isTrue_or (wpAny_mono (S.ts sc b m H1 _ env A s1 E ρ1 x hA (R.step S1) I1) (fun c s2 x => ?_) fun _ _ x => x)
          cases c with
          | true => exact x.after S1
          | false => exact isTrue_or_nil (x.after S1)
  | Compare a ops bs pos =>
    cases ops with | nil => exact h.elim | cons op ops =>
    cases ops with | cons => exact h.elim | nil =>
    cases bs with | nil => exact h.elim | cons b bs =>
    cases bs with | cons => exact h.elim | nil =>
      obtain ⟨hb, h⟩ := brB_neg h
      refine wpAny_isTrue_Compare1 (wpAny_mono (S.ev sc a m H _ env A s E ρ h hA R I) (fun c s1 x => ?_) fun _ _ x => x) hb
      obtain ⟨u, H1, ρ1, x, hr, I1, S1⟩ := x
      refine wpAny_mono (S.ev sc b m H1 _ env A s1 E ρ1 x hA (R.step S1) I1) (fun c2 s2 x => ?_) fun _ _ x => x
      obtain ⟨v, H2, ρ2, x, hr2, I2, S2⟩ := x
      obtain ⟨t, ht, _⟩ := S2.pre
      refine wpAny_mono (cmp_sound (qt := qt) (Q := Q) hm hA I2 (hr.mono ht) hr2 x) (fun c3 s3 x => ?_) fun _ _ x => x
      obtain ⟨c, rfl, x⟩ := x
      exact wpAny_truthy_bool (x.after (S1.trans S2))
  | IfExp a b c p => exact h.elim
  | _ => exact plain h rfl

/-! ## blocks -/
theorem exs_sound (S : SOps prog w g qt d r) (hA : OkB d A) {kr : V → Hp → Prop} : ∀ (ss : List PySem.Stmt) {m : Loc} {H : Hp} {kn kc : Loc → Hp → Prop} {s : Shared} {ρ : List Addr} {E : Value → Shared → Prop}, exs r sc ss m H kn kr kc → ER g sc env m ρ s.heap → Inv prog w g ρ H (hxs s) →
    wpAny (model prog w) A (execs ss env) (FPost prog w g qt sc env ρ s.heap kn kr kc) E s
  | [], m, H, kn, kc, s, ρ, E, h, R, I => wpAny_execs_nil ⟨m, H, ρ, h, R, I, .refl⟩
  | b :: ss, m, H, kn, kc, s, ρ, E, h, R, I => by
    refine wpAny_execs_cons (wpAny_mono (S.ex sc b m H _ kr kc env A s E ρ h hA R I) (fun f s1 x => ?_) fun _ _ x => x)
    cases f with
    | next =>
      obtain ⟨m1, H1, ρ1, x, R1, I1, S1⟩ := x
      exact wpAny_mono (exs_sound S hA ss x R1 I1) (fun f s2 x => x.after S1) fun _ _ x => x
    | cont => exact x
    | ret c => exact x
    | brk => exact x.elim
/-! ## loops -/
theorem while_sound (S : SOps prog w g qt d r) (hA : OkB d A) {t : PySem.Expr} {a : List PySem.Stmt} {pos : Pos} {n : Nat} {kn : Loc → Hp → Prop} {kr : V → Hp → Prop} {kc : Loc → Hp → Prop} (h : whl (fun m H Q => r.ts sc t m H Q) (fun m H k => exs r sc a m H k kr k) n m H kn) (R : ER g sc env m ρ s.heap) (I : Inv prog w g ρ H (hxs s)) :
    wpAny (model prog w) A (exec (.While t a [] pos) env) (FPost prog w g qt sc env ρ s.heap kn kr kc) E s := by
  refine wpAny_While (codeAny_whileLoop (fun n s' => ∃ m2 H2 ρ2, whl (fun m H Q => r.ts sc t m H Q) (fun m H k => exs r sc a m H k kr k) n m2 H2 kn ∧ ER g sc env m2 ρ2 s'.heap ∧ Inv prog w g ρ2 H2 (hxs s') ∧ Step (own env) qt ρ ρ2 s.heap s'.heap) ?_ n ⟨m, H, ρ, h, R, I, .refl⟩)
  rintro n s1 ⟨m1, H1, ρ1, h1, R1, I1, S1⟩
  cases n with
  | zero => exact h1.elim
  | succ n =>
    refine wpAny_mono (S.ts sc t m1 H1 _ env A s1 _ ρ1 h1 hA R1 I1) (fun c s2 x => ?_) fun _ _ x => x
    obtain ⟨H2, ρ2, x, I2, S2⟩ := x
    have R2 := R1.step S2
    cases c with
    | false => exact wpAny_execs_nil ⟨m1, H2, ρ2, x, R2, I2, S1.trans S2.any⟩
    | true =>
      rw [if_pos rfl]
      refine wpAny_mono (exs_sound S hA a x R2 I2) (fun f s3 x => ?_) fun _ _ x => x
      cases f with
      | next => obtain ⟨m3, H3, ρ3, x, R3, I3, S3⟩ := x; exact ⟨n, Nat.lt_succ_self _, m3, H3, ρ3, x, R3, I3, (S1.trans S2.any).trans S3⟩
      | cont => obtain ⟨m3, H3, ρ3, x, R3, I3, S3⟩ := x; exact ⟨n, Nat.lt_succ_self _, m3, H3, ρ3, x, R3, I3, (S1.trans S2.any).trans S3⟩
      | ret c => exact x.after (S1.trans S2.any)
      | brk => exact x.elim

inductive FlI (prog : Program) (w : World) (g : HX) (qt : Bool) (r : Ops) (sc : Scope) (env : Env) (tgt : PySem.Expr) (a : List PySem.Stmt) (kn : Loc → Hp → Prop) (kr : V → Hp → Prop) (ii : Nat) (o : O) (ad I : Addr) (xs : List V) (ρ1 : List Addr) (hp1 : Heap) (k : Nat) (s' : Shared) : Prop
  | mk (i : Nat) (m2 : Loc) (H2 : Hp) (ρ2 : List Addr) (h0 : k = xs.length + 1 - i) (h1 : i ≤ xs.length) (h2 : forL (fun v m H k => r.asg sc tgt v m H fun m1 H1 => exs r sc a m1 H1 k kr k) (fun H' => H'[ii]? = some o) (xs.drop i) m2 H2 kn) (h3 : ER g sc env m2 ρ2 s'.heap) (h4 : Inv prog w g ρ2 H2 (hxs s')) (h5 : Step (own env) qt ρ1 ρ2 hp1 s'.heap) (h6 : I ∉ ρ2) (h7 : SrcAt s'.heap o ad I i) (h8 : H2[ii]? = some o) : FlI prog w g qt r sc env tgt a kn kr ii o ad I xs ρ1 hp1 k s'
theorem for_loop {qs : Bool} (S : SOps prog w g qs d r) (hA : OkB d A) (hqs : ∀ {ρ ρ' : List Addr} {h h' : Heap}, Step (own env) qs ρ ρ' h h' → Step (own env) qt ρ ρ' h h') {tgt : PySem.Expr} {a : List PySem.Stmt} {kn : Loc → Hp → Prop} {kr : V → Hp → Prop} {kc : Loc → Hp → Prop}
    {ii : Nat} {o : O} {ad I : Addr} {xs : List V} {RR : Result → Shared → Prop} {s1 s2 : Shared} {ρ1 : List Addr} {H1 : Hp}
    (R1 : ER g sc env m ρ1 s1.heap) (I1 : Inv prog w g ρ1 H1 (hxs s1)) (hi : H1[ii]? = some o) (ha : ρ1[ii]? = some ad) (hx : itemsOf o = some xs) (hd : (∃ kvs, o = .dictI kvs) → qs = true)
    (hZ : s1.heap.get? I = none) (hk : ∀ b ob, s1.heap.get? b = some ob → s2.heap.get? b = some ob) (X : SrcAt s2.heap o ad I 0)
    (h : forL (fun v m H k => r.asg sc tgt v m H fun m1 H1 => exs r sc a m1 H1 k kr k) (fun H' => H'[ii]? = some o) xs m H1 kn)
    (fin : ∀ f s', FPost prog w g qt sc env ρ1 s1.heap kn kr kc f s' → RR (.ok f) s') (hos : s2.os = s1.os) (hgs : s2.gens = s1.gens) : codeAny (model prog w) A (.forLoop tgt (.ref I) a [] env) RR s2 := by
  have notin : I ∉ ρ1 := fresh_not I1 hZ
  have hZ' : ∀ z, z = I → s1.heap.get? z = none := fun z e => e ▸ hZ
  have hown : ¬ own env I := fun z => by
    rcases z with z | ⟨x, h1, h2⟩
    · obtain ⟨_, hn, _⟩ := R1.ns
      obtain ⟨ob, e⟩ := Heap.Ns.live hn
      rw [← z, hZ] at e; cases e
    · obtain ⟨c, e1, _, _, _, ov, ⟨ob, e2, _⟩, _⟩ := R1.cells x h1
      rw [h2] at e1; cases e1; rw [hZ] at e2; cases e2
  refine codeAny_forLoop_any (FlI prog w g qt r sc env tgt a kn kr ii o ad I xs ρ1 s1.heap) ?_ (xs.length + 1)
    ⟨0, m, H1, ρ1, rfl, Nat.zero_le _, by (first | exact h | simpa using h), R1.step (Step.keeps (qt := true) hk), I1.all hk hos hgs, Step.keeps hk, notin, X, hi⟩
  rintro n s' ⟨i, m2, H2, ρ2, rfl, hle, hc, R2, I2, S2, n2, X2, ho⟩
  have ha2 : ρ2[ii]? = some ad := by obtain ⟨t, ht, _⟩ := S2.pre; exact pre_get ht ha
  refine src_next hA.1 I2 ho ha2 hx X2 n2 (fun hlt h' hk' => ?_) fun v c h' tk hv hr X3 hk' => ?_
  · have e : xs.drop i = [] := List.drop_eq_nil_of_le hlt
    rw [e] at hc
    exact wpAny_execs_nil (fin .next { s' with heap := h' } ⟨m2, H2, ρ2, hc, R2.off (Z := fun z => z = I) R1 hZ' hk', I2.off (Z := fun z => z = I) I1 hZ' (fun z e => e ▸ n2) hk', S2.off (Z := fun z => z = I) hZ' hk'⟩)
  · refine owned_go (s := { s' with heap := h', toks := tk }) X3 ?_
    rw [drop_at hv] at hc
    have I3 := I2.off (h₂ := ⟨h', s'.os, s'.gens⟩) (Z := fun z => z = I) I1 hZ' (fun z e => e ▸ n2) hk'
    have S3 := S2.off (h₂ := h') (Z := fun z => z = I) hZ' hk'
    have R3 := R2.off (h₂ := h') (Z := fun z => z = I) R1 hZ' hk'
    have hlt := (List.getElem?_eq_some_iff.mp hv).1
    refine wpAny_mono (S.asg sc tgt v c m2 H2 _ env A { s' with heap := h', toks := tk } _ ρ2 hc hA R3 I3 hr) (fun _ s4 x => ?_) fun _ _ e => e
    obtain ⟨m4, H4, ρ4, x, R4, I4, S4⟩ := x
    refine wpAny_mono (exs_sound S hA a x R4 I4) (fun f s5 x => ?_) fun _ _ e => e
    have again : APost prog w g qs sc env ρ4 s4.heap (fun m5 H5 => H5[ii]? = some o ∧ forL (fun v m H k => r.asg sc tgt v m H fun m1 H1 => exs r sc a m1 H1 k kr k) (fun H' => H'[ii]? = some o) (xs.drop (i + 1)) m5 H5 kn) s5 →
        ∃ k, k < xs.length + 1 - i ∧ FlI prog w g qt r sc env tgt a kn kr ii o ad I xs ρ1 s1.heap k s5 := fun x => by
      obtain ⟨m5, H5, ρ5, ⟨ho5, x⟩, R5, I5, S5⟩ := x
      have S45 := S4.trans S5
      refine ⟨xs.length + 1 - (i + 1), by omega, i + 1, m5, H5, ρ5, rfl, hlt, x, R5, I5, S3.trans (hqs S45), fun z => ?_, src_keep I3 ho ha2 X3 n2 hown S45 I5 ho5 hd, ho5⟩
      obtain ⟨ob, _, e, _⟩ := X3.cls
      exact n2 (S45.mem z e)
    cases f with
    | next => exact again x
    | cont => exact again x
    | ret c =>
      obtain ⟨v', H5, ρ5, x, hr5, I5, S5⟩ := x
      exact fin (.ret c) s5 ⟨v', H5, ρ5, x, hr5, I5, S3.trans (hqs (S4.trans S5))⟩
    | brk => exact x.elim
end
end Mine
end
section
open PySem PySem.W PyProof.Rows
set_option maxRecDepth 100000
namespace Mine
section
variable {prog : Program} {w : World} {g : HX} {qt : Bool} {d : Nat} {K : Frag} {T : Tabs} {A : Around} {E : Value → Shared → Prop} {s : Shared} {ρ ρ₁ : List Addr} {H H₁ : Hp} {P : Addr → Prop} {sc scope : Scope} {env : Env} {m : Loc} {r r' : Ops} {cl : CallOp} {up : Bool}

/-! ## assignments -/
noncomputable def pick (env : Env) (line : Nat) (t : PySem.Expr) : Option Str := match t with
  | .Name id pos => if env.kindOf id == some .local && pos.line == line then some id else none
  | _ => none
theorem pick_short {line : Nat} (R : ER g sc env m ρ s.heap) : ∀ {ts : List PySem.Expr}, (ts.filterMap (pick env line)).length = ts.length → names? ts = some (ts.filterMap (pick env line)) ∧ anyNot sc ts = false
  | [], _ => ⟨rfl, rfl⟩
  | t :: ts, h => by
    have hle := List.length_filterMap_le (pick env line) ts
    rw [List.filterMap_cons] at h ⊢
    cases hp : pick env line t with
    | none => rw [hp] at h; simp only [List.length_cons] at h; lia
    | some x =>
      rw [hp] at h
      simp only [List.length_cons, Nat.add_right_cancel_iff] at h
      obtain ⟨a, b⟩ := pick_short R h
      unfold pick at hp
      split at hp
      · split at hp
        · rename_i y pos hc
          cases hp
          rw [Bool.and_eq_true] at hc
          have hk : env.kindOf x = some .local := by (first | exact eq_of_beq hc.1 | simpa using hc.1)
          have hl : isLoc sc x = true := by
            have := R.cls x
            rw [hk] at this
            unfold isLoc
            cases hs : sc.names.lookup x with
            | none => rw [hs] at this; cases this
            | some k => rw [hs] at this; cases k <;> first | rfl | cases this
          refine ⟨by simp only [names?, a], ?_⟩
          unfold anyNot at b ⊢
          rw [List.any_cons, b]
          simp [hl]
        · cases hp
      · cases hp
theorem swapped_cases {ts vs : List PySem.Expr} {k k2 : Nat} {p p2 : Pos} (R : ER g sc env m ρ s.heap) (hc : vs.all (constantsAlone 8) = false) (ha : anyNot sc ts = true ∨ (tgtLoc sc (.Tuple ts k p)).isSome = true) :
    swappedStores [.Tuple ts k p] (.Tuple vs k2 p2) env = pure none ∨ ∃ xs, tgtLoc sc (.Tuple ts k p) = some xs ∧ swappedStores [.Tuple ts k p] (.Tuple vs k2 p2) env = pure (some xs) := by
  have eq : swappedStores [.Tuple ts k p] (.Tuple vs k2 p2) env = (if (!(ts.length == 2 || ts.length == 3) || vs.length != ts.length || env.blockKind != .function) = true then pure none else
      if (vs.any fun | .Starred .. => true | _ => false) = true then pure none else
      if ((ts.filterMap (pick env ((ts.head?.map (·.pos.line)).getD 0))).length != ts.length || (ts.filterMap (pick env ((ts.head?.map (·.pos.line)).getD 0))).eraseDups.length != (ts.filterMap (pick env ((ts.head?.map (·.pos.line)).getD 0))).length) = true then pure none else
      if vs.all (foldedForSure 8) = true then pure none else
      if vs.all (constantsAlone 8) = true then unsupported "assign.tuple-of-constant-expressions:order-of-the-stores" else pure (some (ts.filterMap (pick env ((ts.head?.map (·.pos.line)).getD 0))))) := by
    rfl
  rw [eq]
  split
  · exact .inl rfl
  · split
    · exact .inl rfl
    · split
      · exact .inl rfl
      · rename_i hc3
        split
        · exact .inl rfl
        · rw [if_neg (by rw [hc]; exact Bool.false_ne_true)]
          refine .inr ⟨_, ?_, rfl⟩
          simp only [Bool.or_eq_true, bne_iff_ne, ne_eq, not_or, Decidable.not_not] at hc3
          obtain ⟨a, b⟩ := pick_short R hc3.1
          rcases ha with ha | ha
          · rw [b] at ha; cases ha
          · obtain ⟨xs, hx⟩ := Option.isSome_iff_exists.mp ha
            obtain ⟨_, _, _, e1, e2, _⟩ := tgtLoc_spec hx
            cases e1
            rw [a] at e2
            rw [hx, Option.some.inj e2]

theorem assign_road {t e : PySem.Expr} {pos : Pos} {Q : Flow → Shared → Prop} (h : wpAny (model prog w) A (eval e env) (fun v s₁ => wpAny (model prog w) A (assign t env v) (fun _ => Q .next) E s₁) E s)
    (hs : swapsWithSole [t] e pos.line env = pure false) (hw : swappedStores [t] e env = pure none) (ha : (assignEach [t] env).map (·.2) = [assign t env]) : wpAny (model prog w) A (exec (.Assign [t] e pos) env) Q E s := by
  rw [PyProof.Rows.exec_Assign]
  refine wpAny_bind (wpAny_standAt ?_)
  rw [hs]
  refine wpAny_bind (wpAny_pure ?_)
  rw [if_neg Bool.false_ne_true]
  refine wpAny_bind (wpAny_mono h (fun v s₁ h₁ => ?_) fun _ _ x => x)
  rw [hw, ha]
  refine wpAny_bind (wpAny_pure ?_)
  show wpAny (model prog w) A (do assignAll v [assign t env]; pure .next) Q E s₁
  exact wpAny_bind (wpAny_mono h₁ (fun _ _ x => wpAny_pure x) fun _ _ x => x)

/-- what a right side that is no comprehension gives to a target -/
theorem swaps_no {t e : PySem.Expr} {line : Nat} (h1 : ∀ a b c d, e ≠ .ListComp a b c d) (h2 : ∀ a b c d, e ≠ .SetComp a b c d) (h3 : ∀ a b c d f, e ≠ .DictComp a b c d f) : swapsWith e (some t) line env = pure false := by
  cases e <;> first | rfl | exact absurd rfl (h1 _ _ _ _) | exact absurd rfl (h2 _ _ _ _) | exact absurd rfl (h3 _ _ _ _ _)
theorem swaps_lc {elt : PySem.Expr} {gens : List Comprehension} {scope : Scope} {pos p : Pos} {x : Str} {line : Nat} : ∃ b, swapsWith (.ListComp elt gens scope pos) (some (.Name x p)) line env = pure b ∧ (b = true → env.kindOf x = some .local) := by
  refine ⟨env.blockKind == .function && env.kindOf x == some .local && p.line == (PySem.Expr.ListComp elt gens scope pos).pos.line && !(scope.names.any fun (n, k) => n == x && (k == .local || k == .cell)), rfl, fun h => ?_⟩
  simp only [Bool.and_eq_true, beq_iff_eq] at h
  exact h.1.1.2
theorem loc_of (R : ER g sc env m ρ s.heap) {x : Str} (h : env.kindOf x = some .local) : isLoc sc x = true := by
  have := R.cls x
  rw [h] at this
  unfold isLoc
  cases hs : sc.names.lookup x with
  | none => rw [hs] at this; cases this
  | some k => rw [hs] at this; cases k <;> first | rfl | cases this

theorem asgOk_comp {t e : PySem.Expr} (h : asgOk sc t e = true) : (∀ a b c d, e ≠ .SetComp a b c d) ∧ (∀ a b c d f, e ≠ .DictComp a b c d f) := by
  have h1 : notComp e = true := (Bool.and_eq_true_iff.mp h).1
  exact ⟨fun a b c d q => (by subst q; cases h1), fun a b c d f q => (by subst q; cases h1)⟩
theorem swS_attr {o e : PySem.Expr} {n : Str} {p : Pos} {line : Nat} : swapsWithSole [.Attribute o n p] e line env = pure false := by cases e <;> rfl
theorem swS_sub {o i e : PySem.Expr} {p : Pos} {line : Nat} : swapsWithSole [.Subscript o i p] e line env = pure false := by cases e <;> rfl
theorem swS_tup {ts : List PySem.Expr} {k : Nat} {e : PySem.Expr} {p : Pos} {line : Nat} : swapsWithSole [.Tuple ts k p] e line env = pure false := by cases e <;> rfl
theorem swD_name {x : Str} {e : PySem.Expr} {p : Pos} : swappedStores [.Name x p] e env = pure none := by cases e <;> rfl
theorem swD_attr {o e : PySem.Expr} {n : Str} {p : Pos} : swappedStores [.Attribute o n p] e env = pure none := by cases e <;> rfl
theorem swD_sub {o i e : PySem.Expr} {p : Pos} : swappedStores [.Subscript o i p] e env = pure none := by cases e <;> rfl
theorem swD_tup {ts : List PySem.Expr} {k : Nat} {e : PySem.Expr} {p : Pos} (h : ¬ ∃ a b c, e = .Tuple a b c) : swappedStores [.Tuple ts k p] e env = pure none := by cases e <;> first | rfl | exact absurd ⟨_, _, _, rfl⟩ h
theorem assign_sound (hm : ∃ o, g.get? sysModules = some o) (S : SOps prog w g qt d r) {t e : PySem.Expr} {pos : Pos} {kn : Loc → Hp → Prop} {kr : V → Hp → Prop} {kc : Loc → Hp → Prop} (hot : okTgt t = true) (hok : asgOk sc t e = true) (h : r.ev sc e m H fun v H1 => bindL1 r sc t v m H1 kn) (hA : OkB d A) (R : ER g sc env m ρ s.heap) (I : Inv prog w g ρ H (hxs s)) :
    wpAny (model prog w) A (exec (.Assign [t] e pos) env) (FPost prog w g qt sc env ρ s.heap kn kr kc) E s := by
  obtain ⟨nsc, ndc⟩ := asgOk_comp hok
  have bindLoc : ∀ {x : Str} {p : Pos} {v : V} {c : Value} {H1 : Hp} {ρ1 : List Addr} {s1 : Shared}, isLoc sc x = true → kn ((x, v) :: m) H1 → VR ρ1 v c → ER g sc env m ρ1 s1.heap → Inv prog w g ρ1 H1 (hxs s1) → wpAny (model prog w) A (assign (.Name x p) env c) (fun _ => APost prog w g qt sc env ρ1 s1.heap kn) E s1 :=
    fun {x p v c H1 ρ1 s1} hl q hr R1 I1 => PyProof.Rows.assign_Name (store_local R1 hl hr fun h' tk R2 hs => by
      have k1 : KeptL env s1.heap h' := fun b ob hb e => (hs.2 b hb).trans e
      exact ⟨_, H1, ρ1, q, R2, kept_inv I1 R1 k1, kept_step R1 R2 k1⟩)
  have ev := S.ev sc e m H _ env A s E ρ h hA R I
  have one : ∀ {hs : swapsWithSole [t] e pos.line env = pure false} {hw : swappedStores [t] e env = pure none} {ha : (assignEach [t] env).map (·.2) = [assign t env]},
      (∀ v c H1 ρ1 (s1 : Shared), bindL1 r sc t v m H1 kn → VR ρ1 v c → ER g sc env m ρ1 s1.heap → Inv prog w g ρ1 H1 (hxs s1) → wpAny (model prog w) A (assign t env c) (fun _ => APost prog w g qt sc env ρ1 s1.heap kn) E s1) → wpAny (model prog w) A (exec (.Assign [t] e pos) env) (FPost prog w g qt sc env ρ s.heap kn kr kc) E s :=
    fun {hs hw ha} q => assign_road (wpAny_mono ev (fun c s1 x => by
      obtain ⟨v, H1, ρ1, x, hr, I1, S1⟩ := x
      exact wpAny_mono (q v c H1 ρ1 s1 x hr (R.step S1) I1) (fun _ s2 x => x.after S1.any) fun _ _ e => e) fun _ _ e => e) hs hw ha
  cases t with
  | Name x p =>
    have nm : ∀ v c H1 ρ1 (s1 : Shared), bindL1 r sc (.Name x p) v m H1 kn → VR ρ1 v c → ER g sc env m ρ1 s1.heap → Inv prog w g ρ1 H1 (hxs s1) → wpAny (model prog w) A (assign (.Name x p) env c) (fun _ => APost prog w g qt sc env ρ1 s1.heap kn) E s1 := fun v c H1 ρ1 s1 x hr R1 I1 => by
      have x := brB_if x
      split at x
      · rename_i hl; exact bindLoc hl x hr R1 I1
      · exact S.asg sc _ v c m H1 kn env A s1 E ρ1 x hA R1 I1 hr
    by_cases hlc : ∃ a b c d, e = .ListComp a b c d
    · obtain ⟨a, b, c, d', rfl⟩ := hlc
      obtain ⟨bb, hb, hloc⟩ := swaps_lc (env := env) (elt := a) (gens := b) (scope := c) (pos := d') (p := p) (x := x) (line := pos.line)
      cases bb with
      | false => exact one (hs := hb) (hw := rfl) (ha := rfl) nm
      | true =>
        have hl := loc_of R (hloc rfl)
        rw [exec_Assign_Name_used _ _ _ _ hb]
        have h' : r.ev sc (.ListComp a b c d') m H (fun v H1 => kn ((x, v) :: m) H1) := by
          have e : (fun v H1 => bindL1 r sc (.Name x p) v m H1 kn) = fun v H1 => kn ((x, v) :: m) H1 := by
            funext v H1
            show brB (isLoc sc x) _ _ = _
            rw [hl]; rfl
          rw [← e]; exact h
        exact wpAny_bind (wpAny_standAt (wpAny_bind (wpAny_mono (S.use sc a b c d' x p m H kn env A s E ρ h' hl hA R I) (fun _ s1 x => wpAny_pure x) fun _ _ e => e)))
    · exact one (hs := (swaps_no (t := .Name x p) (env := env) (fun a b c d q => hlc ⟨a, b, c, d, q⟩) nsc ndc : swapsWith e (some (.Name x p)) pos.line env = pure false)) (hw := swD_name) (ha := rfl) nm
  | Attribute o n p => exact one (hs := swS_attr) (hw := swD_attr) (ha := rfl) fun v c H1 ρ1 s1 x hr R1 I1 => S.asg sc _ v c m H1 kn env A s1 E ρ1 x hA R1 I1 hr
  | Subscript o i p => exact one (hs := swS_sub) (hw := swD_sub) (ha := rfl) fun v c H1 ρ1 s1 x hr R1 I1 => S.asg sc _ v c m H1 kn env A s1 E ρ1 x hA R1 I1 hr
  | Tuple ts k p =>
    have nm : ∀ v c H1 ρ1 (s1 : Shared), bindL1 r sc (.Tuple ts k p) v m H1 kn → VR ρ1 v c → ER g sc env m ρ1 s1.heap → Inv prog w g ρ1 H1 (hxs s1) → wpAny (model prog w) A (assign (.Tuple ts k p) env c) (fun _ => APost prog w g qt sc env ρ1 s1.heap kn) E s1 := fun v c H1 ρ1 s1 x hr R1 I1 => by
      unfold bindL1 at x
      dsimp only at x
      split at x
      · rename_i xs hx
        exact tgt_sound hm hA hx x hr R1 I1 fun m' s' q R2 I2 kl => ⟨m', H1, ρ1, q, R2, I2, kept_step R1 R2 kl⟩
      · exact S.asg sc _ v c m H1 kn env A s1 E ρ1 x hA R1 I1 hr
    by_cases htu : ∃ a b c, e = .Tuple a b c
    · obtain ⟨vs, k2, p2, rfl⟩ := htu
      have hok : asgTup sc ts (.Tuple ts k p) (.Tuple vs k2 p2) = true := (Bool.and_eq_true_iff.mp hok).2
      unfold asgTup at hok
      simp only [Bool.and_eq_true, Bool.or_eq_true, Bool.not_eq_true'] at hok
      rcases swapped_cases (k := k) (k2 := k2) (p := p) (p2 := p2) R hok.1.1 hok.1.2 with hw | ⟨xs, hx, hw⟩
      · exact one (hs := rfl) (hw := hw) (ha := rfl) nm
      · refine PyProof.Rows.Assign_Tuple_swapped (names := xs) (wpAny_mono ev (fun c s1 x => ?_) fun _ _ e => e) rfl hw
        obtain ⟨v, H1, ρ1, x, hr, I1, S1⟩ := x
        have x : bindN H1 xs v m fun m1 => kn m1 H1 := by
          unfold bindL1 at x
          dsimp only at x
          rw [hx] at x
          exact x
        obtain ⟨_, _, _, _, _, hl, hn⟩ := tgtLoc_spec hx
        exact swap_sound hm hA hl hn x hr (R.step S1) I1 fun m' s' q R2 I2 kl => APost.after S1.any ⟨m', H1, ρ1, q, R2, I2, kept_step (R.step S1) R2 kl⟩
    · exact one (hs := swS_tup) (hw := swD_tup htu) (ha := rfl) nm
  | _ => cases hot
end
end Mine
end
section
open PySem PySem.W PyProof.Rows
set_option maxRecDepth 100000
namespace Mine
section
variable {prog : Program} {w : World} {g : HX} {qt : Bool} {d : Nat} {K : Frag} {T : Tabs} {A : Around} {E : Value → Shared → Prop} {s : Shared} {ρ ρ₁ : List Addr} {H H₁ : Hp} {P : Addr → Prop} {sc scope : Scope} {env : Env} {m : Loc} {r r' : Ops} {cl : CallOp} {up : Bool}

theorem not_inter (R : ER g sc env m ρ s.heap) : interactive env = false := by
  unfold interactive
  rw [R.kind]; rfl
theorem ex_sound (hm : ∃ o, g.get? sysModules = some o) (S : SOps prog w g qt d r) (S' : SOps prog w g true d r') (b : PySem.Stmt) {kn : Loc → Hp → Prop} {kr : V → Hp → Prop} {kc : Loc → Hp → Prop} (h : exStep r r' sc b m H kn kr kc) (hA : OkB d A) (R : ER g sc env m ρ s.heap) (I : Inv prog w g ρ H (hxs s)) :
    wpAny (model prog w) A (exec b env) (FPost prog w g qt sc env ρ s.heap kn kr kc) E s := by
  cases b with
  | Expr e pos =>
    obtain ⟨hd, h⟩ := brB_pos h
    refine wpAny_Expr (wpAny_mono (S.ev sc e m H _ env A s E ρ h hA R I) (fun c s1 x => ?_) fun _ _ x => x) (not_inter R) (by cases e <;> first | rfl | cases hd)
    obtain ⟨u, H1, ρ1, x, hr, I1, S1⟩ := x
    cases u with
    | none => cases hr; exact ⟨m, H1, ρ1, x, R.step S1, I1, S1.any⟩
    | int i => obtain ⟨t, rfl⟩ := hr; exact ⟨m, H1, ρ1, x, R.step S1, I1, S1.any⟩
    | _ => exact x.elim
  | Return e pos =>
    cases e with
    | none => exact h.elim
    | some e =>
      refine wpAny_Return_some (wpAny_mono (S.ev sc e m H _ env A s E ρ h hA R I) (fun c s1 x => ?_) fun _ _ x => x)
      obtain ⟨u, H1, ρ1, x, hr, I1, S1⟩ := x
      exact ⟨u, H1, ρ1, x, hr, I1, S1.any⟩
  | Continue pos => exact wpAny_Continue ⟨m, H, ρ, h, R, I, .refl⟩
  | Assign ts e pos =>
    cases ts with | nil => exact h.elim | cons t ts =>
    cases ts with | cons => exact h.elim | nil =>
      obtain ⟨hc, h⟩ := brB_pos h
      rw [Bool.and_eq_true] at hc
      exact assign_sound hm S hc.1 hc.2 h hA R I
  | If t a b pos =>
    refine wpAny_If (wpAny_mono (S.ts sc t m H _ env A s E ρ h hA R I) (fun c s1 x => ?_) fun _ _ x => x)
    obtain ⟨H1, ρ1, x, I1, S1⟩ := x
    cases c with
    | true => rw [if_pos rfl]; exact wpAny_mono (exs_sound S hA a x (R.step S1) I1) (fun f s2 x => x.after S1.any) fun _ _ x => x
    | false => rw [if_neg Bool.false_ne_true]; exact wpAny_mono (exs_sound S hA b x (R.step S1) I1) (fun f s2 x => x.after S1.any) fun _ _ x => x
  | While t a o pos =>
    cases o with
    | nil => obtain ⟨n, h⟩ := h; exact while_sound S hA h R I
    | cons => exact h.elim
  | For tgt it a o pos =>
    cases o with | cons => exact h.elim | nil =>
      obtain ⟨hn, h⟩ := brB_pos h
      refine wpAny_For (wpAny_mono (S.ev sc it m H _ env A s E ρ h hA R I) (fun c s1 x => ?_) fun _ _ x => x) (notSet_fold hn env)
      obtain ⟨v, H1, ρ1, x, hr, I1, S1⟩ := x
      obtain ⟨i, o, xs, rfl, hi, hx, hd, hf⟩ := overV_spec x
      obtain ⟨a', ha, rfl⟩ := hr
      have R1 := R.step S1
      refine src_start hm I1 hi ha hx fun ob X => ?_
      have hZ : s1.heap.get? s1.heap.objs.size = none := none_ge (Nat.le_refl _)
      have hk : ∀ b o, s1.heap.get? b = some o → (s1.heap.push ob).get? b = some o := fun b o e => Heap.get?_push_of_some _ e
      have fin : ∀ f s', FPost prog w g qt sc env ρ1 s1.heap kn kr kc f s' → (fun (r : Result) s' => match r with | .ok f => FPost prog w g qt sc env ρ s.heap kn kr kc f s' | .error e => cameBackBy (model prog w) A env E e s') (.ok f) s' := fun f s' x => x.after S1.any
      cases hq : quietSs a with
      | true => rw [hq] at hf; exact for_loop S' hA (fun x => x.loose) R1 I1 hi ha hx (fun _ => rfl) hZ hk X hf fin rfl rfl
      | false => rw [hq] at hf hd; exact for_loop S hA (fun x => x) R1 I1 hi ha hx (fun z => by cases hd z) hZ hk X hf fin rfl rfl
  | _ => exact h.elim

theorem step_sound (hm : ∃ o, g.get? sysModules = some o) (W : Wd w K g T) (C : SCall prog w g qt d cl) (hup : up = true → qt = false) (S : SOps prog w g qt d r) (S' : SOps prog w g true d r') : SOps prog w g qt d (stepOps T cl up r r') where
  ev sc e m H Q env A s E ρ h hA R I := ev_sound hm W C hup S (fun elt gens scope pos sc m H Q env A s E ρ h hA R I => comp_ev hm W S S' elt gens scope pos sc m H Q env A s E ρ h hA R I) e h hA R I
  ts sc e m H Q env A s E ρ h hA R I := ts_sound hm S e h hA R I
  asg sc t v c m H Q env A s E ρ h hA R I hr := asg_sound hm W S t h hA R I hr
  ex sc b m H kn kr kc env A s E ρ h hA R I := ex_sound hm S S' b h hA R I
  use sc elt gens scope pos x px m H Q env A s E ρ h hx hA R I := comp_use hm W S S' sc elt gens scope pos x px m H Q env A s E ρ h hx hA R I
theorem no_sound : SOps prog w g qt d noOps where
  ev _ _ _ _ _ _ _ _ _ _ h := h.elim
  ts _ _ _ _ _ _ _ _ _ _ h := h.elim
  asg _ _ _ _ _ _ _ _ _ _ _ _ h := h.elim
  ex _ _ _ _ _ _ _ _ _ _ _ _ h := h.elim
  use _ _ _ _ _ _ _ _ _ _ _ _ _ _ _ h := h.elim
theorem noCall_sound : SCall prog w g qt d noCall := fun _ _ _ _ _ _ _ _ _ h => h.elim
theorem opsQ_sound (hm : ∃ o, g.get? sysModules = some o) (W : Wd w K g T) : ∀ n, SOps prog w g true d (opsQ T n)
  | 0 => no_sound
  | n + 1 => step_sound hm W noCall_sound (fun h => by cases h) (opsQ_sound hm W n) (opsQ_sound hm W n)
theorem ops_sound (hm : ∃ o, g.get? sysModules = some o) (W : Wd w K g T) (C : SCall prog w g false d cl) : ∀ n, SOps prog w g false d (ops T cl n)
  | 0 => no_sound
  | n + 1 => step_sound hm W C (fun _ => rfl) (ops_sound hm W C n) (opsQ_sound hm W n)
end
end Mine
end
section
open PySem PySem.W PyProof.Rows
set_option maxRecDepth 100000
set_option linter.unusedVariables false
namespace Mine
section
variable {prog : Program} {w : World} {g : HX} {qt : Bool} {d : Nat} {K : Frag} {T : Tabs} {A : Around} {E : Value → Shared → Prop} {s : Shared} {ρ ρ₁ : List Addr} {H H₁ : Hp} {P : Addr → Prop} {sc scope : Scope} {env : Env} {m : Loc} {r r' : Ops} {cl : CallOp} {up : Bool}

/-! ## calls of the text's own functions -/
theorem bindL_spec {kindOf : Str → Option NameKind} {x : Str} (hx : kindOf x = some .local) : ∀ (binds : List (Str × Value)) (m0 : Str → Option Value), bindL kindOf binds m0 x = (binds.reverse.lookup x).or (m0 x)
  | [], _ => rfl
  | (n, v) :: r, m0 => by
    unfold bindL
    rw [bindL_spec hx r, List.reverse_cons, List.lookup_append, Option.or_assoc]
    congr 1
    by_cases e : x = n
    · subst e; rw [if_pos hx]; simp
    · have e' : (x == n) = false := by simpa using e
      rw [List.lookup_cons, e', List.lookup_nil]
      split <;> simp [e]
theorem bindC_spec {kindOf : Str → Option NameKind} {x : Str} (hx : kindOf x ≠ some .local) : ∀ (binds : List (Str × Value)) (m0 : Str → Option Value), bindC kindOf binds m0 x = (binds.reverse.lookup x).or (m0 x)
  | [], _ => rfl
  | (n, v) :: r, m0 => by
    unfold bindC
    rw [bindC_spec hx r, List.reverse_cons, List.lookup_append, Option.or_assoc]
    congr 1
    by_cases e : x = n
    · subst e; rw [if_neg hx]; simp
    · have e' : (x == n) = false := by simpa using e
      rw [List.lookup_cons, e', List.lookup_nil]
      split <;> simp [e]
theorem kr_zip {ρ : List Addr} : ∀ (ns : List Str) {vs : List V} {cs : List Value}, VRs ρ vs cs → KR ρ (ns.zip vs) (ns.zip cs)
  | [], _, _, _ => .nil
  | _ :: _, _, _, .nil => .nil
  | _ :: ns, _, _, .cons h t => .cons h (kr_zip ns t)
theorem KR.snoc' {ρ : List Addr} {l : List (Str × V)} {l' : List (Str × Value)} (x : KR ρ l l') {k : Str} {v : V} {c : Value} (h : VR ρ v c) : KR ρ (l ++ [(k, v)]) (l' ++ [(k, c)]) := by
  induction x with
  | nil => exact .cons h .nil
  | cons h' _ ih => exact .cons h' ih
theorem KR.rev {ρ : List Addr} {l : List (Str × V)} {l' : List (Str × Value)} (x : KR ρ l l') : KR ρ l.reverse l'.reverse := by
  induction x with
  | nil => exact .nil
  | cons h _ ih => rw [List.reverse_cons, List.reverse_cons]; exact ih.snoc' h
theorem KR.lookup {ρ : List Addr} {l : List (Str × V)} {l' : List (Str × Value)} (x : KR ρ l l') {k : Str} {v : V} (e : l.lookup k = some v) : ∃ c, l'.lookup k = some c ∧ VR ρ v c := by
  induction x with
  | nil => cases e
  | @cons k' v' c' vs cs h _ ih =>
    rw [List.lookup_cons] at e ⊢
    cases hb : k == k' with
    | true => rw [hb] at e; cases e; exact ⟨_, rfl, h⟩
    | false => rw [hb] at e; exact ih e
theorem Step.shut {ρ' : List Addr} {h h₁ h' : Heap} (hk : ∀ b o, h.get? b = some o → h₁.get? b = some o) (hP : ∀ a, P a → h.get? a = none) (S : Step P qt ρ ρ' h₁ h') : Step nobody qt ρ ρ' h h' := by
  obtain ⟨⟨t, ht, hn⟩, b, c, e⟩ := (Step.keeps (P := P) (qt := qt) (ρ := ρ) hk).trans S
  exact ⟨⟨t, ht, hn⟩, fun a o q n _ => b a o q n (fun z => by rw [hP a z] at q; cases q), c, e⟩

theorem fn_sound (hm : ∃ o, g.get? sysModules = some o) (W : Wd w K g T) {f : Addr} {fd : FuncData} {r : Ops} (S : SOps prog w g qt d r) (hA : Ok (d + 1) A) (hf : T.fn f = some fd) {vs : List V} {cvs : List Value} {Q : V → Hp → Prop}
    (hl : vs.length = (argNames fd).length) (h : exs r fd.scope (bodyOf fd) (((argNames fd).zip vs).reverse) H (fun _ H1 => Q .none H1) Q (fun _ _ => False)) (I : Inv prog w g ρ H (hxs s)) (rv : VRs ρ vs cvs) :
    codeAny (model prog w) A (.call (.ref f) ⟨cvs, []⟩) (wants (EPost prog w g qt ρ s.heap Q) E) s := by
  obtain ⟨o, ho, hcls, hdat, hclo, hglo, hblt, hbody, hkind, hco, hgen, hbind, hargs, hcell, hfree⟩ := W.ok.fn f fd hf
  obtain ⟨p, loose, mg, mb, top⟩ := W.top
  have hcl : cvs.length = (argNames fd).length := by rw [← rv.length, hl]
  have ho' : s.heap.get? f = some o := I.stays _ _ (W.X _ _ ho)
  have hgs : g.objs.size ≤ s.heap.objs.size := W.gsz _ _ _ I
  have hnew : s.heap.get? s.heap.objs.size = none := none_ge (Nat.le_refl _)
  refine codeAny_call_cells (hA.2.1 |> fun z => by lia) ho' hdat (top.nolimit.keeps I.stays) ((W.code f fd hf).keeps I.stays) hbody (hbind cvs hcl) hclo (fun x hx => hargs x.1 (by
    obtain ⟨a, b⟩ := x
    exact (List.of_mem_zip hx).1) _) (fun s₁ X => ?_) hco hgen hkind
  have hk := X.toInCall.keep
  have I1 : Inv prog w g ρ H (hxs s₁) := I.all hk (by obtain ⟨_, _, e⟩ := X.toInCall.same; rw [e]) (by obtain ⟨_, _, e⟩ := X.toInCall.same; rw [e])
  have kr := (kr_zip (argNames fd) rv).rev
  have hap : ∀ c, s.heap.objs.size ≤ c → c ∉ ρ := fun c hc z => Nat.lt_irrefl _ (Nat.lt_of_lt_of_le (I.ltsz z) hc)
  have R : ER g fd.scope (callEnvC fd s.heap.objs.size f) (((argNames fd).zip vs).reverse) ρ s₁.heap := by
    refine ⟨hkind, hglo, hblt, fun x => rfl, fun x hx => hx, hgs, hap _ (Nat.le_refl _), ⟨_, X.toInCall.ns, fun x v hx hmv => ?_⟩, fun x hx => ?_, fun x y c h1 h2 => name_of_addr X.apart (mem_of_lookup h1) (mem_of_lookup h2)⟩
    · obtain ⟨c, h1, h2⟩ := kr.lookup hmv
      exact ⟨c, by rw [bindL_spec hx, h1]; rfl, h2⟩
    · have hx' : fd.scope.names.lookup x = some .cell := by
        have hx : clsK (fd.scope.names.lookup x) = 2 := hx
        cases hq : fd.scope.names.lookup x with
        | none => rw [hq] at hx; cases hx
        | some k => rw [hq] at hx; cases k <;> first | rfl | exact absurd hq (hfree x) | cases hx
      obtain ⟨c, hc⟩ := Option.isSome_iff_exists.mp (hcell x (s.heap.objs.size + 1) hx')
      have hab := X.above x c (mem_of_lookup hc)
      refine ⟨c, hc, Nat.ne_of_gt hab, hap c (Nat.le_of_lt hab), Nat.le_trans hgs (Nat.le_of_lt hab), _, X.cell x c hc, fun v hmv => ?_⟩
      obtain ⟨c', h1, h2⟩ := kr.lookup hmv
      refine ⟨c', ?_, h2⟩
      rw [bindC_spec (by show fd.scope.names.lookup x ≠ _; rw [hx']; decide), h1]; rfl
  have hP : ∀ a, own (callEnvC fd s.heap.objs.size f) a → s.heap.get? a = none := fun a z => by
    rcases z with z | ⟨x, _, h2⟩
    · rw [z]; exact hnew
    · exact none_ge (Nat.le_of_lt (X.above x a (mem_of_lookup h2)))
  refine wpAny_mono (exs_sound (E := fun e s' => wpAny (model prog w) (A.deeper (callEnvC fd s.heap.objs.size f)) (leaving (callEnvC fd s.heap.objs.size f) e) (fun _ s'' => wants (EPost prog w g qt ρ s.heap Q) E (.error e) s'') (fun e' s'' => wants (EPost prog w g qt ρ s.heap Q) E (.error e') s'') s') S hA.deeper (bodyOf fd) h R I1) (fun fl s2 x => ?_) fun _ _ x => x
  cases fl with
  | next => obtain ⟨m', H', ρ', q, _, i, t⟩ := x; exact ⟨.none, H', ρ', q, rfl, i, t.shut hk hP⟩
  | ret c => obtain ⟨v, H', ρ', q, hr, i, t⟩ := x; exact ⟨v, H', ρ', q, hr, i, t.shut hk hP⟩
  | cont => obtain ⟨_, _, _, q, _⟩ := x; exact q.elim
  | brk => exact x.elim

theorem callA_sound (hm : ∃ o, g.get? sysModules = some o) (W : Wd w K g T) : ∀ d, SCall prog w g false d (callA T d)
  | 0 => fun _ _ _ _ _ _ _ _ _ h => h.elim
  | d + 1 => fun f vs cvs H Q A s E ρ h hA I rv => by
    obtain ⟨fd, hf, h⟩ := onO_some h
    obtain ⟨hl, h⟩ := brB_pos h
    exact fn_sound hm W (ops_sound hm W (callA_sound hm W d) 16) hA hf (by (first | exact eq_of_beq hl | simpa using hl)) h I rv
end
end Mine
end
section
open PySem PySem.W PyProof.Rows
set_option maxRecDepth 100000
namespace Mine
/-! ## the part of the head's heap that the proof reads -/
noncomputable def topAt (i : Nat) : PySem.Stmt := PySem.Challenge.pw_nu0276_01.main.body.getD i (.Pass ⟨0, 0, 0, 0⟩)
noncomputable def inCls (s : PySem.Stmt) (i : Nat) : PySem.Stmt := match s with
  | .ClassDef _ _ _ b _ _ _ _ _ _ _ => b.getD i (.Pass ⟨0, 0, 0, 0⟩)
  | s => s
noncomputable def fnObj (s : PySem.Stmt) (q : Str) (md : Value) (c : Nat) : Obj := match s with
  | .FunctionDef n a b _ _ _ sc _ _ _ => { cls := .type "function", data := .func { name := n, qualname := q, params := a, body := .stmts b, scope := sc, globals := 3, closure := [], defaults := .none, kwdefaults := .none, pyModule := md, code := .ref c } }
  | _ => { cls := .none }
noncomputable def ent (P : Params) (n : Str) (t : Nat) (v : Value) : DictEntry := ⟨PyData.keyHash P n, .str n t, v⟩
noncomputable def fnT (n : Str) (t a : Nat) : Str × Nat × Value := (n, t, .ref a)
noncomputable def nsObj (P : Params) (l : List (Str × Nat × Value)) (n : Nat) : Obj := { cls := .type "dict", data := .dict (l.map fun x => ent P x.1 x.2.1 x.2.2).toArray n }
noncomputable def clsObj (n : Str) (a ns t1 t2 : Nat) : Obj := { cls := .type "type", data := .cls { name := n, bases := [.type "object"], mro := [.ref a, .type "object"], ns := ns, qualname := n }, slots := #[none, none, some (.str n t1), some (.str n t2), some (.builtin "object.__new__"), some (.bool true)] }
noncomputable def mdC : Value := .str "relfinder.counting" 194
noncomputable def mdG : Value := .str "relfinder.circuit" 325
noncomputable def mdL : Value := .str "law_nu0276_01" 468
noncomputable def fC (i a : Nat) (q : Str) : Nat × Obj := (a, fnObj (inCls (topAt 2) i) q mdC (a - 1))
noncomputable def fG (i a : Nat) (q : Str) : Nat × Obj := (a, fnObj (inCls (topAt 4) i) q mdG (a - 1))
noncomputable def fL (i a : Nat) (q : Str) : Nat × Obj := (a, fnObj (topAt i) q mdL (a - 1))
noncomputable def fns : List (Nat × Obj) := [
  fC 0 35 "Counter.__init__", fC 1 40 "Counter.below", fC 2 47 "Counter.support", fC 3 54 "Counter.gathered", fC 4 61 "Counter.turned", fC 5 66 "Counter.settled", fC 6 71 "Counter.groups",
  fC 7 78 "Counter.pick", fC 8 83 "Counter.plan", fC 9 90 "Counter.is_ready", fC 10 97 "Counter.own", fC 11 102 "Counter.combined", fC 12 107 "Counter.count",
  fG 0 128 "Circuit.__init__", fG 2 142 "Circuit.kind", fG 3 149 "Circuit.parts", fG 4 156 "Circuit.new_gate", fG 5 163 "Circuit.new_input", fG 6 170 "Circuit.all_of", fG 7 175 "Circuit.any_of",
  fG 10 196 "Circuit.implies", fG 11 203 "Circuit.iff", fG 12 210 "Circuit.unlike", fG 13 217 "Circuit.choose",
  fL 6 231 "_law_next", fL 7 236 "_law_input_table", fL 8 243 "_law_made", fL 9 250 "_law_table", fL 10 257 "_law_ones", fL 11 264 "_law_drawn", fL 12 271 "_law_own_table", fL 13 278 "_law_is_right", fL 14 283 "law"]
noncomputable def nsTop : List (Str × Nat × Value) := [("__name__", 165, .str "law_nu0276_01" 468), ("__doc__", 166, .none), ("__package__", 167, .none), ("__loader__", 168, .builtin "__main__.__loader__#opaque"), ("__spec__", 169, .none),
  ("__annotations__", 170, .ref 6), ("__builtins__", 171, .ref 4), ("__file__", 173, .str "/claim/cut.py" 172), ("__cached__", 174, .none), fnT "_wall" 193 21, fnT "Counter" 324 110, fnT "Circuit" 467 220,
  fnT "_law_next" 478 231, fnT "_law_input_table" 484 236, fnT "_law_made" 495 243, fnT "_law_table" 506 250, fnT "_law_ones" 514 257, fnT "_law_drawn" 525 264, fnT "_law_own_table" 539 271, fnT "_law_is_right" 550 278, fnT "law" 556 283]
noncomputable def nsC : List (Str × Nat × Value) := [("__module__", 203, mdC), ("__firstlineno__", 207, .int 5 206), fnT "__init__" 216 35, fnT "below" 222 40, fnT "support" 231 47, fnT "gathered" 242 54, fnT "turned" 252 61, fnT "settled" 258 66, fnT "groups" 264 71,
  fnT "pick" 276 78, fnT "plan" 282 83, fnT "is_ready" 290 90, fnT "own" 299 97, fnT "combined" 305 102, fnT "count" 311 107, fnT "__static_attributes__" 317 108, fnT "__dict__" 319 111, fnT "__weakref__" 321 112, ("__doc__", 322, .none)]
noncomputable def nsG : List (Str × Nat × Value) := [("__module__", 334, mdG), ("__firstlineno__", 338, .int 121 337), fnT "__init__" 345 128, fnT "size" 352 135, fnT "kind" 360 142, fnT "parts" 368 149, fnT "new_gate" 377 156, fnT "new_input" 384 163, fnT "all_of" 395 170,
  fnT "any_of" 401 175, fnT "both" 410 182, fnT "either" 419 189, fnT "implies" 428 196, fnT "iff" 437 203, fnT "unlike" 446 210, fnT "choose" 456 217, fnT "__static_attributes__" 460 218, fnT "__dict__" 462 221, fnT "__weakref__" 464 222, ("__doc__", 465, .none)]
noncomputable def KK (P : Params) : Frag := (3, nsObj P nsTop 21) :: (109, nsObj P nsC 4) :: (110, clsObj "Counter" 110 109 196 204) :: (219, nsObj P nsG 4) :: (220, clsObj "Circuit" 220 219 327 335) :: fns
noncomputable def kAs : List Nat := 3 :: 109 :: 110 :: 219 :: 220 :: fns.map (·.1)
noncomputable def codeNm (o : Obj) : Option Str := match o.data with
  | .fields vs => (match vs[1]? with | some (Value.str n _) => some n | _ => none)
  | _ => none
noncomputable def codeOf (p : Nat × Obj) : Nat := p.1 - 1
noncomputable def qualOf (p : Nat × Obj) : Option Str := match p.2.data with | .func f => some f.qualname | _ => none
theorem kk_as (P : Params) : kAs = (KK P).map (·.1) := rfl
noncomputable def codesIn (h : Heap) : Prop := ∀ p ∈ fns, ∀ q, qualOf p = some q → h.CodeRec (.ref (codeOf p)) q
theorem codesOf {h : Heap} (e : fns.map (fun p => (h.get? (codeOf p)).bind codeNm) = fns.map qualOf) : codesIn h := by
  intro p hp q hq
  have : ∀ l : List (Nat × Obj), l.map (fun p => (h.get? (codeOf p)).bind codeNm) = l.map qualOf → p ∈ l → (h.get? (codeOf p)).bind codeNm = qualOf p := by
    intro l
    induction l with
    | nil => intro _ hp; cases hp
    | cons x r ih =>
      intro e hp
      simp only [List.map_cons, List.cons.injEq] at e
      rcases List.mem_cons.mp hp with rfl | hp
      · exact e.1
      · exact ih e.2 hp
  have z := this fns e hp
  rw [hq] at z
  obtain ⟨o, ho, hn⟩ := Option.bind_eq_some_iff.mp z
  unfold codeNm at hn
  split at hn
  · rename_i vs hd
    split at hn
    · rename_i n t hv; cases hn; exact ⟨_, o, vs, t, rfl, ho, hd, hv⟩
    · cases hn
  · cases hn
noncomputable def hk : Hook := ⟨List (Option Obj) × List (Option Str) × Bool, fun s => (kAs.map s.heap.get?, fns.map fun p => (s.heap.get? (codeOf p)).bind codeNm, (s.heap.get? sysModules).isSome), fun w => ((KK w.params).map fun p => some p.2, fns.map qualOf, true),
  fun w h => (KK w.params).In h ∧ codesIn h ∧ ∃ o, h.get? sysModules = some o, fun w s e => ⟨Frag.in_of (kk_as _) (Prod.mk.inj e).1, codesOf (Prod.mk.inj (Prod.mk.inj e).2).1, Option.isSome_iff_exists.mp (Prod.mk.inj (Prod.mk.inj e).2).2⟩,
  fun w h h' x k => ⟨x.1.keeps k, fun p hp q hq => (x.2.1 p hp q hq).keeps k, by obtain ⟨o, e⟩ := x.2.2; exact ⟨o, k _ _ e⟩⟩⟩
end Mine
end
section
open PySem PySem.W PyProof.Rows
set_option maxRecDepth 100000
namespace Mine
noncomputable def fnOfK (P : Params) (a : Addr) : Option FuncData := match (KK P).lookup a with
  | some o => match o.data with | .func fd => some fd | _ => .none
  | .none => .none
noncomputable def TT (P : Params) (a : Addr) (l : List Int) : Tabs where
  glob := [("Counter", .ref 110), ("Circuit", .ref 220), ("_law_next", .ref 231), ("_law_input_table", .ref 236), ("_law_made", .ref 243), ("_law_table", .ref 250), ("_law_ones", .ref 257), ("_law_drawn", .ref 264), ("_law_own_table", .ref 271), ("_law_is_right", .ref 278)]
  blt := [("abs", .builtin "abs"), ("len", .builtin "len"), ("sorted", .builtin "sorted"), ("sum", .builtin "sum"), ("repr", .builtin "repr"), ("int", .type "int"), ("range", .type "range"), ("tuple", .type "tuple"), ("list", .type "list"), ("dict", .type "dict")]
  fn := fnOfK P
  init := [(110, 35), (220, 128)]
  meth := [(110, "below", 40), (110, "support", 47), (110, "gathered", 54), (110, "turned", 61), (110, "settled", 66), (110, "groups", 71), (110, "pick", 78), (110, "plan", 83), (110, "is_ready", 90), (110, "own", 97), (110, "combined", 102), (110, "count", 107),
    (220, "kind", 142), (220, "parts", 149), (220, "new_gate", 156), (220, "new_input", 163), (220, "all_of", 170), (220, "any_of", 175), (220, "implies", 196), (220, "iff", 203), (220, "unlike", 210), (220, "choose", 217)]
  attr := [(110, "circuit"), (110, "inputs"), (110, "known"), (110, "plans"), (110, "supports"), (220, "kinds"), (220, "parts_now"), (220, "known")]
  ro := fun c => match c with | .ref b => if b = a then some l else .none | _ => .none

end Mine
end
section
open PySem PySem.W PyProof.Rows
set_option maxRecDepth 100000
set_option linter.unusedVariables false
namespace Mine
theorem map_cons_inv {α β : Type} {f : α → β} {v : β} {rest : List β} {rs : List α} (h : v :: rest = rs.map f) : ∃ p rs', rs = p :: rs' ∧ v = f p ∧ rest = rs'.map f := by
  cases rs with
  | nil => cases h
  | cons p rs' => rw [List.map_cons, List.cons.injEq] at h; exact ⟨p, rs', rfl, h.1, h.2⟩
theorem map_nil_inv {α β : Type} {f : α → β} {rs : List α} (h : [] = rs.map f) : rs = [] := by
  cases rs with
  | nil => rfl
  | cons p rs' => cases h
theorem lenS {α : Type} {l : List α} {n : Nat} (h : l.length = n + 1) : ∃ a r, l = a :: r ∧ r.length = n := by
  cases l with
  | nil => cases h
  | cons a r => exact ⟨a, r, rfl, Nat.succ.inj h⟩
theorem len1 {α : Type} {l : List α} (h : l.length = 1) : ∃ a, l = [a] := by
  obtain ⟨a, r, rfl, h2⟩ := lenS h
  exact ⟨a, by rw [List.eq_nil_of_length_eq_zero h2]⟩
theorem len2 {α : Type} {l : List α} (h : l.length = 2) : ∃ a b, l = [a, b] := by
  obtain ⟨a, r, rfl, h2⟩ := lenS h
  obtain ⟨b, rfl⟩ := len1 h2
  exact ⟨a, b, rfl⟩
theorem len3 {α : Type} {l : List α} (h : l.length = 3) : ∃ a b c, l = [a, b, c] := by
  obtain ⟨a, r, rfl, h2⟩ := lenS h
  obtain ⟨b, c, rfl⟩ := len2 h2
  exact ⟨a, b, c, rfl⟩
theorem len4 {α : Type} {l : List α} (h : l.length = 4) : ∃ a b c d, l = [a, b, c, d] := by
  obtain ⟨a, r, rfl, h2⟩ := lenS h
  obtain ⟨b, c, d, rfl⟩ := len3 h2
  exact ⟨a, b, c, d, rfl⟩
theorem len5 {α : Type} {l : List α} (h : l.length = 5) : ∃ a b c d e, l = [a, b, c, d, e] := by
  obtain ⟨a, r, rfl, h2⟩ := lenS h
  obtain ⟨b, c, d, e, rfl⟩ := len4 h2
  exact ⟨a, b, c, d, e, rfl⟩
section
variable (P : Params) (a : Addr) (l : List Int)
theorem glob_ok : (TT P a l).glob.map (fun p => (nsIn (KK P) mainGlobals p.1, keepIn (KK P) p.2)) = (TT P a l).glob.map fun p => (some (some p.2), true) := by kernel_rfl
theorem blt_ok : (TT P a l).blt.map (fun p => (nsIn (KK P) mainGlobals p.1, bootBuiltins p.1)) = (TT P a l).blt.map fun p => (some none, some p.2) := by kernel_rfl
theorem init_ok : (TT P a l).init.map (fun p => (makesIn (KK P) p.1, findIn (KK P) (.ref p.1) "__init__", typeIn (KK P) (.ref p.2), keepIn (KK P) (.ref p.1))) = (TT P a l).init.map fun p => (true, some (some (.ref p.2)), some (.type "function"), true) := by kernel_rfl
theorem meth_ok : (TT P a l).meth.map (fun t => (plainGet (KK P) t.1 t.2.1, findIn (KK P) (.ref t.1) t.2.1, isFn (KK P) (.ref t.2.2), keepIn (KK P) (.ref t.2.2))) = (TT P a l).meth.map fun t => (true, some (some (.ref t.2.2)), true, true) := by kernel_rfl
theorem attr_ok : (TT P a l).attr.map (fun t => (plainGet (KK P) t.1 t.2, hasDictIn (KK P) t.1, findIn (KK P) (.ref t.1) t.2, findIn (KK P) (.ref t.1) "__setattr__", plainOver (KK P) t.1, takerIn (KK P) t.1 t.2)) =
    (TT P a l).attr.map fun t => (true, true, some none, some (some (.builtin "object.__setattr__")), true, some none) := by kernel_rfl

theorem lookup_memN {β : Type} {x : Nat} {v : β} : ∀ {l : List (Nat × β)}, l.lookup x = some v → (x, v) ∈ l
  | [], h => by cases h
  | (y, u) :: r, h => by
    rw [List.lookup_cons] at h
    cases hb : x == y with
    | true => rw [hb] at h; cases h; rw [eq_of_beq hb]; exact List.mem_cons_self ..
    | false => rw [hb] at h; exact List.mem_cons_of_mem _ (lookup_memN h)
theorem map_mem {α β : Type} {f g : α → β} {l : List α} (h : l.map f = l.map g) {x : α} (hx : x ∈ l) : f x = g x := by
  induction l with
  | nil => cases hx
  | cons y r ih =>
    simp only [List.map_cons, List.cons.injEq] at h
    rcases List.mem_cons.mp hx with rfl | hx
    · exact h.1
    · exact ih h.2 hx

/-! ## the functions -/
noncomputable def dataOf (o : Obj) : FuncData := match o.data with | .func fd => fd | _ => default
noncomputable def isLC (k : Option NameKind) : Bool := match k with | some .local => true | some .cell => true | _ => false
noncomputable def notFree (k : NameKind) : Bool := match k with | .free => false | _ => true
noncomputable def BindOk (fd : FuncData) : Prop := ∀ vals : List Value, vals.length = (argNames fd).length → bindArgs fd ⟨vals, []⟩ = pure ((argNames fd).zip vals)
structure FnOk (o : Obj) : Prop where
  cls : o.cls = .type "function"
  data : o.data = .func (dataOf o)
  clo : (dataOf o).closure = []
  glob : (dataOf o).globals = mainGlobals
  blt : (dataOf o).builtins = builtinsNs
  body : (dataOf o).body = .stmts (bodyOf (dataOf o))
  kind : (dataOf o).scope.kind = .function
  co : (dataOf o).scope.isCoroutine = false
  gen : (dataOf o).scope.isGenerator = false
  args : (argNames (dataOf o)).all (fun x => isLC ((dataOf o).scope.names.lookup x)) = true
  free : (dataOf o).scope.names.all (fun p => notFree p.2) = true
  bind : BindOk (dataOf o)
theorem bind_of1 {fd : FuncData} (hl : (argNames fd).length = 1) (h : ∀ a, bindArgs fd ⟨[a], []⟩ = pure ((argNames fd).zip [a])) : BindOk fd := fun vals e => by
  rw [hl] at e
  obtain ⟨a, rfl⟩ := len1 e
  exact h a
theorem bind_of2 {fd : FuncData} (hl : (argNames fd).length = 2) (h : ∀ a b, bindArgs fd ⟨[a, b], []⟩ = pure ((argNames fd).zip [a, b])) : BindOk fd := fun vals e => by
  rw [hl] at e
  obtain ⟨a, b, rfl⟩ := len2 e
  exact h a b
theorem bind_of3 {fd : FuncData} (hl : (argNames fd).length = 3) (h : ∀ a b c, bindArgs fd ⟨[a, b, c], []⟩ = pure ((argNames fd).zip [a, b, c])) : BindOk fd := fun vals e => by
  rw [hl] at e
  obtain ⟨a, b, c, rfl⟩ := len3 e
  exact h a b c
theorem bind_of4 {fd : FuncData} (hl : (argNames fd).length = 4) (h : ∀ a b c d, bindArgs fd ⟨[a, b, c, d], []⟩ = pure ((argNames fd).zip [a, b, c, d])) : BindOk fd := fun vals e => by
  rw [hl] at e
  obtain ⟨a, b, c, d, rfl⟩ := len4 e
  exact h a b c d
theorem bind_of5 {fd : FuncData} (hl : (argNames fd).length = 5) (h : ∀ a b c d f, bindArgs fd ⟨[a, b, c, d, f], []⟩ = pure ((argNames fd).zip [a, b, c, d, f])) : BindOk fd := fun vals e => by
  rw [hl] at e
  obtain ⟨a, b, c, d, f, rfl⟩ := len5 e
  exact h a b c d f
theorem fns_ok : ∀ p ∈ fns, FnOk p.2 := by
  repeat' (first | exact List.forall_mem_nil _ | refine List.forall_mem_cons.mpr ⟨?_, ?_⟩)
  all_goals refine ⟨by kernel_rfl, by kernel_rfl, by kernel_rfl, by kernel_rfl, by kernel_rfl, by kernel_rfl, by kernel_rfl, by kernel_rfl, by kernel_rfl, by kernel_rfl, by kernel_rfl, ?_⟩
  all_goals first
    | exact bind_of1 (by decide +kernel) (fun _ => by kernel_rfl)
    | exact bind_of2 (by decide +kernel) (fun _ _ => by kernel_rfl)
    | exact bind_of3 (by decide +kernel) (fun _ _ _ => by kernel_rfl)
    | exact bind_of4 (by decide +kernel) (fun _ _ _ _ => by kernel_rfl)
    | exact bind_of5 (by decide +kernel) (fun _ _ _ _ _ => by kernel_rfl)
theorem cellsFrom_acc {x : Str} : ∀ (names : List (Str × NameKind)) (n : Nat) (acc : List (Str × Addr)), (acc.lookup x).isSome = true → ((cellsFrom n names acc).lookup x).isSome = true
  | [], _, _, h => h
  | (y, k) :: r, n, acc, h => by
    unfold cellsFrom
    split
    · refine cellsFrom_acc r _ _ ?_
      rw [List.lookup_cons]
      cases x == y with
      | true => rfl
      | false => exact h
    · exact cellsFrom_acc r _ _ h
theorem cellsFrom_some {x : Str} : ∀ (names : List (Str × NameKind)) (n : Nat) (acc : List (Str × Addr)), names.lookup x = some .cell → ((cellsFrom n names acc).lookup x).isSome = true
  | [], _, _, h => by cases h
  | (y, k) :: r, n, acc, h => by
    rw [List.lookup_cons] at h
    unfold cellsFrom
    cases hb : x == y with
    | true =>
      rw [hb] at h; cases h
      rw [if_pos (by decide)]
      refine cellsFrom_acc r _ _ ?_
      rw [List.lookup_cons, hb]; rfl
    | false =>
      rw [hb] at h
      split
      · exact cellsFrom_some r _ _ h
      · exact cellsFrom_some r _ _ h
theorem fn_mem {b : Addr} {fd : FuncData} (h : fnOfK P b = some fd) : ∃ o, (KK P).lookup b = some o ∧ (b, o) ∈ fns ∧ o.data = .func fd := by
  unfold fnOfK at h
  split at h
  · rename_i o ho
    split at h
    · rename_i fd' hd
      cases h
      refine ⟨o, ho, ?_, hd⟩
      have hm := lookup_memN ho
      unfold KK at hm
      simp only [List.mem_cons, Prod.mk.injEq] at hm
      rcases hm with ⟨_, rfl⟩ | ⟨_, rfl⟩ | ⟨_, rfl⟩ | ⟨_, rfl⟩ | ⟨_, rfl⟩ | hm
      · cases hd
      · cases hd
      · cases hd
      · cases hd
      · cases hd
      · exact hm
    · cases h
  · cases h
theorem tabs_ok : TabsOk (TT P a l) (KK P) where
  glob := fun x v h => (Prod.mk.inj (map_mem (glob_ok P a l) (lookup_mem h))).1
  blt := fun x v h => ⟨(Prod.mk.inj (map_mem (blt_ok P a l) (lookup_mem h))).1, (Prod.mk.inj (map_mem (blt_ok P a l) (lookup_mem h))).2, fun e => by subst e; revert h; rw [show (TT P a l).blt.lookup ("__name__" : Str) = .none by kernel_rfl]; exact nofun⟩
  bltk := fun x v h => by
    have hm := lookup_mem h
    simp only [TT, List.mem_cons, Prod.mk.injEq, List.not_mem_nil, or_false] at hm
    rcases hm with ⟨_, rfl⟩ | ⟨_, rfl⟩ | ⟨_, rfl⟩ | ⟨_, rfl⟩ | ⟨_, rfl⟩ | ⟨_, rfl⟩ | ⟨_, rfl⟩ | ⟨_, rfl⟩ | ⟨_, rfl⟩ | ⟨_, rfl⟩ <;> exact nofun
  globk := fun x v h => by
    have hm := lookup_mem h
    refine ⟨?_, ?_⟩
    · exact match v with | .ref b => b | _ => 0
    · have z := (Prod.mk.inj (map_mem (glob_ok P a l) hm)).2
      simp only [TT, List.mem_cons, Prod.mk.injEq, List.not_mem_nil, or_false] at hm
      rcases hm with ⟨_, rfl⟩ | ⟨_, rfl⟩ | ⟨_, rfl⟩ | ⟨_, rfl⟩ | ⟨_, rfl⟩ | ⟨_, rfl⟩ | ⟨_, rfl⟩ | ⟨_, rfl⟩ | ⟨_, rfl⟩ | ⟨_, rfl⟩ <;> exact ⟨rfl, z⟩
  fn := fun b fd h => by
    obtain ⟨o, ho, hm, hd⟩ := fn_mem P h
    have F := fns_ok _ hm
    have e : dataOf o = fd := by unfold dataOf; rw [hd]
    obtain ⟨f1, f2, f3, f4, f5, f6, f7, f8, f9, f10, f11, f12⟩ := F
    simp only at f1 f2 f3 f4 f5 f6 f7 f8 f9 f10 f11 f12
    rw [e] at f2 f3 f4 f5 f6 f7 f8 f9 f10 f11 f12
    refine ⟨o, ho, f1, f2, f3, f4, f5, f6, f7, f8, f9, f12, fun x hx n => ?_, fun x n hc => cellsFrom_some _ _ _ hc, fun x hc => ?_⟩
    · have := List.all_eq_true.mp f10 x hx
      unfold isLC at this
      split at this
      · rename_i h1; exact .inl h1
      · rename_i h1; exact .inr ⟨h1, cellsFrom_some _ _ _ h1⟩
      · cases this
    · have := List.all_eq_true.mp f11 _ (lookup_mem hc)
      cases this
  init := fun C fi h => by
    have z := map_mem (init_ok P a l) (lookup_memN h)
    simp only [Prod.mk.injEq] at z
    exact z
  meth := fun t h => by
    have z := map_mem (meth_ok P a l) h
    simp only [Prod.mk.injEq] at z
    exact z
  attr := fun t h => by
    have z := map_mem (attr_ok P a l) h
    simp only [Prod.mk.injEq] at z
    exact z
end
end Mine
end
section
open PySem PySem.W PyProof.Rows
set_option maxRecDepth 100000
set_option linter.unusedVariables false
namespace Mine
noncomputable def cutH (h : Heap) (n : Nat) : Heap := ⟨h.objs.extract 0 n, h.life⟩
theorem cutH_get {h : Heap} {n : Nat} {b : Nat} (hb : b < n) : (cutH h n).get? b = h.get? b := by
  unfold cutH Heap.get?
  have : (h.objs.extract 0 n)[b]? = h.objs[b]? := by
    rw [Array.getElem?_extract]
    by_cases hs : b < h.objs.size
    · rw [if_pos (by lia), Nat.zero_add]
    · rw [if_neg (by lia)]; exact (Array.getElem?_eq_none (by (first | exact Nat.not_lt.mp (by assumption) | lia))).symm
  rw [this]
theorem cutH_none {h : Heap} {n : Nat} {b : Nat} (hb : n ≤ b) : (cutH h n).get? b = none := by
  unfold cutH Heap.get?
  have : (h.objs.extract 0 n)[b]? = none := by
    rw [Array.getElem?_extract, if_neg (by lia)]
  rw [this]
theorem cutH_le {h : Heap} {n : Nat} {b : Nat} {o : Obj} (e : (cutH h n).get? b = some o) : h.get? b = some o := by
  by_cases hb : b < n
  · rw [← cutH_get hb]; exact e
  · rw [cutH_none (by (first | exact Nat.not_lt.mp (by assumption) | lia))] at e; cases e
theorem cutH_size {h : Heap} {n : Nat} (hn : n ≤ h.objs.size) : (cutH h n).objs.size = n := by
  show (h.objs.extract 0 n).size = n
  rw [Array.size_extract]; lia
theorem cutH_ns {h : Heap} {n : Nat} {b : Nat} {m} (hb : b < n) (x : h.Ns b m) : (cutH h n).Ns b m := by obtain ⟨o, es, ep, e, r⟩ := x; exact ⟨o, es, ep, (cutH_get hb).trans e, r⟩
theorem kk_low (P : Params) : (KK P).all (fun p => decide (p.1 < 284)) = true := by kernel_rfl
theorem codes_low : fns.all (fun p => decide (codeOf p < 284)) = true := by decide +kernel
theorem law_in (P : Params) : ((KK P).lookup 283).isSome = true := by kernel_rfl
theorem codes_is : fns.all (fun p => match (dataOf p.2).code with | .ref c => c == codeOf p | _ => false) = true := by decide +kernel
theorem quals_is : fns.map (fun p => qualOf p) = fns.map fun p => some (dataOf p.2).qualname := by kernel_rfl
theorem wd_of {w : World} {h : Heap} (os : OsState) (gens : Array GenState) {p : Program} {loose : List Str} {mg mb : Str → Option Value} (Y : hk.says w h) (T : TopRead p loose mg mb h) {a : Nat} {l : List Int} {cs : List Value} (hL : h.IsList a cs.toArray)
    (hl : ∀ ρ, VRs ρ (l.map V.int) cs) : ∃ g : HX, Wd w (KK w.params) g (TT w.params a l) ∧ (∃ o, g.get? sysModules = some o) ∧ (∀ b o, g.get? b = some o → h.get? b = some o) ∧ g.os = os ∧ g.gens = gens := by
  obtain ⟨Y1, Y2, om, hom⟩ := Y
  obtain ⟨ol, hol⟩ := Option.isSome_iff_exists.mp (law_in w.params)
  have h283 := Y1 _ _ hol
  have s283 : 283 < h.objs.size := Heap.lt_size h283
  obtain ⟨oa, ha, ra⟩ := hL
  have sa : a < h.objs.size := Heap.lt_size ha
  refine ⟨⟨cutH h (max 284 (a + 1)), os, gens⟩, ⟨fun b o e => ?_, fun b fd e => ?_, ⟨p, loose, mg, mb, ?_⟩, ?_, tabs_ok _ _ _, fun c l' e => ?_⟩, ⟨om, (cutH_get (b := 1) (by (first | exact Nat.lt_of_lt_of_le (by decide) (Nat.le_max_left ..) | lia))).trans hom⟩, fun b o e => cutH_le e, rfl, rfl⟩
  · have := List.all_eq_true.mp (kk_low w.params) _ (lookup_memN e)
    have this : @LT.lt Nat instLTNat b 284 := of_decide_eq_true this
    exact (cutH_get (Nat.lt_of_lt_of_le this (Nat.le_max_left ..))).trans (Y1 _ _ e)
  · obtain ⟨o, ho, hm, hd⟩ := fn_mem _ e
    have F : dataOf o = fd := by unfold dataOf; rw [hd]
    have c1 := List.all_eq_true.mp codes_low _ hm
    have c1 : (codeOf (b, o) : Nat) < 284 := by (first | exact of_decide_eq_true c1 | simpa using c1)
    have c2 := List.all_eq_true.mp codes_is _ hm
    have c3 := map_mem quals_is hm
    simp only at c2 c3
    rw [F] at c2 c3
    obtain ⟨c, oc, vs, t, e1, e2, e3, e4⟩ := Y2 _ hm _ c3
    cases e1
    have e5 : fd.code = .ref (codeOf (b, o)) := by
      split at c2
      · rename_i x hx; rw [hx, eq_of_beq c2]
      · cases c2
    exact ⟨_, oc, vs, t, e5, (cutH_get (by omega)).trans e2, e3, e4⟩
  · obtain ⟨mc, x1, x2⟩ := T.nolimit
    exact ⟨cutH_ns (b := 3) (by (first | exact Nat.lt_of_lt_of_le (by decide) (Nat.le_max_left ..) | lia)) T.g, cutH_ns (b := 0) (by (first | exact Nat.lt_of_lt_of_le (by decide) (Nat.le_max_left ..) | lia)) T.b, ⟨mc, cutH_ns (b := 2) (by (first | exact Nat.lt_of_lt_of_le (by decide) (Nat.le_max_left ..) | lia)) x1, x2⟩, T.builtins, T.free⟩
  · have hs : (cutH h (max 284 (a + 1))).objs.size = max 284 (a + 1) := cutH_size (by lia)
    by_cases hb : 283 ≤ a
    · exact ⟨a, _, (cutH_get (by (first | exact Nat.lt_of_lt_of_le (Nat.lt_succ_self _) (Nat.le_max_right ..) | lia))).trans ha, by rw [hs]; lia⟩
    · exact ⟨283, _, (cutH_get (by (first | exact Nat.lt_of_lt_of_le (by decide) (Nat.le_max_left ..) | lia))).trans h283, by rw [hs]; lia⟩
  · simp only [TT] at e
    split at e
    · split at e
      · rename_i b hb
        subst hb; cases e
        exact ⟨_, cs, rfl, ⟨oa, (cutH_get (by (first | exact Nat.lt_of_lt_of_le (Nat.lt_succ_self _) (Nat.le_max_right ..) | lia))).trans ha, ra⟩, hl⟩
      · cases e
    · cases e
end Mine
end
section
open PySem PySem.W PyProof.Rows
set_option maxRecDepth 100000
set_option linter.unusedVariables false
namespace Mine
noncomputable def LawOk : Prop := ∀ (P : Params) (a : Addr) (l : List Int), l.length ≤ 63 → callA (TT P a l) 12 283 [.st (.ref a)] [] fun v _ => v = .bool true
theorem vrs_of_ints {cs : List Value} {l : List Int} (h : IntsAre cs l) : ∀ ρ, VRs ρ (l.map V.int) cs := by
  intro ρ
  induction h with
  | nil => exact .nil
  | cons n t _ ih => exact .cons ⟨t, rfl⟩ ih
theorem law_at (P : Params) : nsFind (nsObj P nsTop 21 |>.data |> fun | .dict es _ => es | _ => #[]) "law" = some (.ref 283) := by kernel_rfl
theorem ns3 (P : Params) : (KK P).lookup mainGlobals = some (nsObj P nsTop 21) := by kernel_rfl
theorem law_ends (L : LawOk) {p : Program} {loose : List Str} {mg mb : Str → Option Value} {prog : Program} {w : World} {s : Shared} (Y : hk.says w s.heap) (T : TopRead p loose mg mb s.heap) (hgens : s.gens = #[]) {fa a : Addr}
    (hfa : mg "law" = some (.ref fa)) {cs : List Value} {l : List Int} (hL : s.heap.IsList a cs.toArray) (hI : IntsAre cs l) (hlen : l.length ≤ 63) {R : Result → Shared → Prop}
    (hR : ∀ s' : Shared, (∀ b o, s.heap.get? b = some o → s'.heap.get? b = some o) → s'.os = s.os → s'.gens = #[] → R (.ok (.ret (.bool true))) s') :
    codeAny (model prog w) callerA (.call (.ref fa) ⟨[.ref a], []⟩) R s := by
  obtain ⟨g, W, hm, hst, hos, hge⟩ := wd_of s.os s.gens Y T hL (vrs_of_ints hI)
  have h3 := Y.1 _ _ (ns3 w.params)
  obtain ⟨o3, es, ep, e3, d3, k3, f3⟩ := T.g
  have hfa' : fa = 283 := by
    have z := f3 "law"
    rw [h3] at e3; cases e3
    have z2 := law_at w.params
    rw [show (nsObj w.params nsTop 21).data = _ from d3] at z2
    have z3 : some (Value.ref 283) = some (.ref fa) := by rw [← hfa, ← z]; exact z2.symm
    cases z3; rfl
  subst hfa'
  have I : Inv prog w g [] [] (hxs s) := ⟨hst, by simp, rfl, List.nodup_nil, fun i o a e => by simp at e, hos.symm, hge.symm⟩
  have z := callA_sound (prog := prog) hm W 12 283 [.st (.ref a)] [.ref a] [] _ callerA s (fun _ _ => False) [] (L w.params a l hlen) ⟨rfl, by decide, by decide, rfl⟩ I (.cons rfl .nil)
  refine codeAny_mono z fun r s' x => ?_
  cases r with
  | error e => exact x.elim
  | ok f =>
    cases f with
    | ret c =>
      obtain ⟨v, H', ρ', rfl, hr, I', S'⟩ := x
      have hr : c = _ := hr
      subst hr
      refine hR s' (fun b o e => S'.pres b o e (fun z => by cases z) (fun z => z)) (I'.os.trans hos) (I'.gens.trans (hge.trans hgens))
    | _ => exact x.elim
end Mine
end
section
open PySem PySem.W PyProof.Rows
set_option maxRecDepth 100000
set_option linter.unusedVariables false
namespace Mine
noncomputable section
noncomputable def onI (u : V) (Q : Int → Prop) : Prop := match u with | .int i => Q i | _ => False
noncomputable def onB (u : V) (Q : Bool → Prop) : Prop := match u with | .bool c => Q c | _ => False
noncomputable def brQ {α β : Type} (c : Bool) (A B : (α → β → Prop) → Prop) (q : α → β → Prop) : Prop := brB c (A q) (B q)
noncomputable def drp (u : V) (p : Prop) : Prop := match u with | .none => p | .int _ => p | _ => False
noncomputable def unp (H : Hp) (v : V) (n : Nat) (Q : List V → Prop) : Prop := match v with
  | .ref i => onO H[i]? fun o => match o with
    | .tuple vs => vs.length = n ∧ Q vs
    | .list vs => vs.length = n ∧ Q vs
    | _ => False
  | _ => False
abbrev lk (x : Str) (m : Loc) : Option V := List.lookup x m
noncomputable def newI (cl : CallOp) (C fi : Addr) (vs : List V) (H : Hp) (Q : V → Hp → Prop) : Prop := cl fi (.ref (H.length + 1) :: vs) (H ++ [.attrs [], .inst C H.length]) fun v H2 => v = .none ∧ Q (.ref (H.length + 1)) H2

noncomputable def kidE (e : PySem.Expr) (i : Nat) : PySem.Expr := match e with
  | .BinOp a _ b _ => [a, b].getD i e
  | .UnaryOp _ a _ => a
  | .IfExp a b c _ => [a, b, c].getD i e
  | .BoolOp _ es _ => es.getD i e
  | .Compare a _ bs _ => (a :: bs).getD i e
  | .Attribute a _ _ => a
  | .Subscript a b _ => [a, b].getD i e
  | .Tuple es _ _ => es.getD i e
  | .List es _ => es.getD i e
  | .Call f as _ _ => (f :: as).getD i e
  | .ListComp a gs _ _ => (match gs with | ⟨_, it, _, _⟩ :: _ => [it, a].getD i e | [] => e)
  | e => e
noncomputable def stAt (b : List PySem.Stmt) (i : Nat) : PySem.Stmt := b.getD i (.Pass ⟨0, 0, 0, 0⟩)
noncomputable def noE : PySem.Expr := .Name "" ⟨0, 0, 0, 0⟩
noncomputable def exprS (s : PySem.Stmt) (i : Nat) : PySem.Expr := match s with
  | .Expr e _ => e
  | .Return (some e) _ => e
  | .Assign _ e _ => e
  | .If t _ _ _ => t
  | .While t _ _ _ => t
  | .For _ it _ _ _ => it
  | _ => noE
noncomputable def blockS (s : PySem.Stmt) (i : Nat) : List PySem.Stmt := match s with
  | .If _ a b _ => [a, b].getD i []
  | .While _ a b _ => [a, b].getD i []
  | .For _ _ a b _ => [a, b].getD i []
  | _ => []
noncomputable def fbody (i : Nat) : List PySem.Stmt := bodyOf (dataOf (fns.getD i (0, { cls := .none })).2)
noncomputable def compSc (e : PySem.Expr) : Scope := match e with
  | .ListComp _ _ sc _ => sc
  | _ => { kind := .function, names := [], isGenerator := false, isCoroutine := false }
theorem freeOf_look {sc : Scope} {x : Str} (h : sc.names.lookup x = some .free) (m : Loc) : lk x (freeOf sc m) = lk x m := by
  show List.lookup x (freeOf sc m) = List.lookup x m
  rw [freeOf_lookup, h]
end
end Mine
end
section
open PySem PySem.W PyProof.Rows
set_option maxRecDepth 100000
set_option linter.unusedVariables false
namespace Mine
/-! ## circuits, plainly -/
inductive Gt where
  | pad | tru | inp | and (ps : List Int)
abbrev Ck := List Gt
noncomputable def partsG : Gt → List Int
  | .and ps => ps
  | _ => []
noncomputable def kindS : Gt → Str
  | .pad => ""
  | .tru => "true"
  | .inp => "input"
  | .and _ => "and"
structure WF (n : Nat) (C : Ck) : Prop where
  len : n + 2 ≤ C.length
  pad : C[0]? = some .pad
  tru : C[1]? = some .tru
  inp : ∀ i, 2 ≤ i → i < n + 2 → C[i]? = some .inp
  and : ∀ i, n + 2 ≤ i → i < C.length → ∃ ps, C[i]? = some (.and ps) ∧ 2 ≤ ps.length ∧ ps.length ≤ 3 ∧ ps.Nodup ∧ (∀ p ∈ ps, 2 ≤ p.natAbs ∧ p.natAbs < i) ∧ ∀ p ∈ ps, -p ∉ ps
structure AndG (n i : Nat) (ps : List Int) : Prop where
  ge : n + 2 ≤ i
  two : 2 ≤ ps.length
  three : ps.length ≤ 3
  nd : ps.Nodup
  parts : ∀ p ∈ ps, 2 ≤ p.natAbs ∧ p.natAbs < i
  nc : ∀ p ∈ ps, -p ∉ ps
theorem WF.at {n : Nat} {C : Ck} (W : WF n C) {i : Nat} {ps : List Int} (h : C[i]? = some (.and ps)) : AndG n i ps := by
  have hlt := (List.getElem?_eq_some_iff.mp h).1
  by_cases h0 : i = 0
  · subst h0; rw [W.pad] at h; cases h
  by_cases h1 : i = 1
  · subst h1; rw [W.tru] at h; cases h
  by_cases h2 : i < n + 2
  · rw [W.inp i (by lia) h2] at h; cases h
  · obtain ⟨ps', e, r⟩ := W.and i (by (first | exact Nat.not_lt.mp (by assumption) | lia)) hlt
    rw [h] at e; cases e
    obtain ⟨r1, r2, r3, r4, r5⟩ := r
    exact ⟨by (first | exact Nat.not_lt.mp (by assumption) | lia), r1, r2, r3, r4, r5⟩
theorem WF.and_parts {n : Nat} {C : Ck} (W : WF n C) {i : Nat} {ps : List Int} (h : C[i]? = some (.and ps)) : ∀ p ∈ ps, 2 ≤ p.natAbs ∧ p.natAbs < i := (W.at h).parts
noncomputable def Vd (C : Ck) (g : Int) : Prop := 1 ≤ g.natAbs ∧ g.natAbs < C.length
noncomputable def lt (b : Bool) (p : Int) : Bool := if 0 < p then b else !b
noncomputable def gv (ρ : Nat → Bool) (acc : List Bool) : Gt → Bool
  | .pad => false
  | .tru => true
  | .inp => ρ acc.length
  | .and ps => ps.all fun p => lt (acc.getD p.natAbs false) p
noncomputable def vals (ρ : Nat → Bool) (C : Ck) : List Bool := C.foldl (fun acc g => acc ++ [gv ρ acc g]) []
noncomputable def vl (ρ : Nat → Bool) (C : Ck) (i : Nat) : Bool := (vals ρ C).getD i false
noncomputable def Vl (ρ : Nat → Bool) (C : Ck) (g : Int) : Bool := lt (vl ρ C g.natAbs) g

theorem vals_snoc (ρ : Nat → Bool) (C : Ck) (g : Gt) : vals ρ (C ++ [g]) = vals ρ C ++ [gv ρ (vals ρ C) g] := by
  unfold vals; rw [List.foldl_append]; rfl
theorem snoc_ind {α : Type} {P : List α → Prop} (h0 : P []) (h1 : ∀ l a, P l → P (l ++ [a])) (l : List α) : P l := by
  have : ∀ l : List α, P l.reverse := by
    intro l
    induction l with
    | nil => exact h0
    | cons a l ih => rw [List.reverse_cons]; exact h1 _ _ ih
  have z := this l.reverse
  rwa [List.reverse_reverse] at z
theorem vals_length (ρ : Nat → Bool) (C : Ck) : (vals ρ C).length = C.length := by
  induction C using snoc_ind with
  | h0 => rfl
  | h1 C g ih => rw [vals_snoc]; simp [ih]
theorem vals_pre (ρ : Nat → Bool) (C D : Ck) : ∃ t, vals ρ (C ++ D) = vals ρ C ++ t := by
  induction D using snoc_ind with
  | h0 => exact ⟨[], by simp⟩
  | h1 D g ih =>
    obtain ⟨t, h⟩ := ih
    rw [← List.append_assoc, vals_snoc]
    exact ⟨t ++ [gv ρ (vals ρ (C ++ D)) g], by rw [← List.append_assoc, ← h]⟩
theorem vl_ext {ρ : Nat → Bool} {C C' : Ck} (h : C <+: C') {i : Nat} (hi : i < C.length) : vl ρ C' i = vl ρ C i := by
  obtain ⟨D, rfl⟩ := h
  obtain ⟨t, e⟩ := vals_pre ρ C D
  unfold vl
  rw [e, List.getD_eq_getElem?_getD, List.getD_eq_getElem?_getD, List.getElem?_append_left (by rw [vals_length]; exact hi)]
theorem Vl_ext {ρ : Nat → Bool} {C C' : Ck} (h : C <+: C') {g : Int} (hg : Vd C g) : Vl ρ C' g = Vl ρ C g := by
  unfold Vl; rw [vl_ext h hg.2]
theorem Vd.ext {C C' : Ck} (h : C <+: C') {g : Int} (hg : Vd C g) : Vd C' g := ⟨hg.1, Nat.lt_of_lt_of_le hg.2 h.length_le⟩
theorem get_ext {C C' : Ck} (h : C <+: C') {i : Nat} {x : Gt} (e : C[i]? = some x) : C'[i]? = some x := by
  obtain ⟨D, rfl⟩ := h
  rw [List.getElem?_append_left (List.getElem?_eq_some_iff.mp e).1]; exact e
theorem get_old {C C' : Ck} (h : C <+: C') {i : Nat} (hi : i < C.length) : C'[i]? = C[i]? := by
  obtain ⟨D, rfl⟩ := h
  rw [List.getElem?_append_left hi]
theorem vl_at (ρ : Nat → Bool) (C : Ck) {i : Nat} {x : Gt} (h : C[i]? = some x) : ∃ acc : List Bool, acc.length = i ∧ vl ρ C i = gv ρ acc x ∧ ∀ j, j < i → acc.getD j false = vl ρ C j := by
  have hlt := (List.getElem?_eq_some_iff.mp h).1
  have e : C.take i ++ [x] <+: C := by
    have := (List.getElem?_eq_some_iff.mp h)
    refine ⟨C.drop (i + 1), ?_⟩
    rw [← this.2, List.append_assoc, List.singleton_append, ← List.drop_eq_getElem_cons hlt, List.take_append_drop]
  have hl : (C.take i).length = i := by rw [List.length_take]; lia
  refine ⟨vals ρ (C.take i), by rw [vals_length, hl], ?_, fun j hj => ?_⟩
  · rw [vl_ext e (by simp [hl])]
    unfold vl
    rw [vals_snoc, List.getD_eq_getElem?_getD, List.getElem?_append_right (by rw [vals_length, hl]; exact Nat.le_refl _), vals_length, hl]
    simp
  · have e2 : C.take i <+: C := List.take_prefix _ _
    exact (vl_ext e2 (by rw [hl]; exact hj)).symm
theorem vl_and {n : Nat} {ρ : Nat → Bool} {C : Ck} (W : WF n C) {i : Nat} {ps : List Int} (h : C[i]? = some (.and ps)) : vl ρ C i = ps.all fun p => Vl ρ C p := by
  obtain ⟨acc, h1, h2, h3⟩ := vl_at ρ C h
  rw [h2]
  have hb := W.and_parts h
  show (ps.all fun p => lt (acc.getD p.natAbs false) p) = _
  rw [Bool.eq_iff_iff, List.all_eq_true, List.all_eq_true]
  constructor
  · intro z p hp; rw [Vl, ← h3 _ (hb p hp).2]; exact z p hp
  · intro z p hp; have := z p hp; rw [Vl, ← h3 _ (hb p hp).2] at this; exact this
end Mine
end
section
open PySem PySem.W PyProof.Rows
set_option maxRecDepth 100000
set_option linter.unusedVariables false
namespace Mine
inductive Rc (C : Ck) : Nat → Nat → Prop
  | refl (i : Nat) : Rc C i i
  | step {i j : Nat} {ps : List Int} {p : Int} : C[i]? = some (.and ps) → p ∈ ps → Rc C p.natAbs j → Rc C i j
noncomputable def Sp (C : Ck) (i x : Nat) : Prop := Rc C i x ∧ C[x]? = some .inp
noncomputable def Few (C : Ck) (i M : Nat) : Prop := ∃ l : List Nat, l.length ≤ M ∧ ∀ j, Rc C i j → j ∈ l
noncomputable def FewAll (C : Ck) : Prop := ∀ i, i < C.length → Few C i 24

theorem Rc.trans {C : Ck} {i j k : Nat} (h : Rc C i j) (h2 : Rc C j k) : Rc C i k := by
  induction h with
  | refl => exact h2
  | step a b _ ih => exact .step a b (ih h2)
theorem Rc.part {C : Ck} {i : Nat} {ps : List Int} {p : Int} (h : C[i]? = some (.and ps)) (hp : p ∈ ps) : Rc C i p.natAbs := .step h hp (.refl _)
theorem Rc.le {n : Nat} {C : Ck} (W : WF n C) {i j : Nat} (h : Rc C i j) : j ≤ i ∧ (1 ≤ i → 1 ≤ j) ∧ (2 ≤ i → 2 ≤ j) := by
  induction h with
  | refl => exact ⟨Nat.le_refl _, id, id⟩
  | step a b _ ih =>
    have := W.and_parts a _ b
    refine ⟨by lia, fun _ => ih.2.1 (by lia), fun _ => ih.2.2 (by lia)⟩
theorem Rc.cases {C : Ck} {i j : Nat} (h : Rc C i j) : j = i ∨ ∃ ps p, C[i]? = some (.and ps) ∧ p ∈ ps ∧ Rc C p.natAbs j := by
  cases h with
  | refl => exact .inl rfl
  | step a b c => exact .inr ⟨_, _, a, b, c⟩
theorem Rc.notAnd {C : Ck} {i j : Nat} (h : Rc C i j) (hi : ∀ ps, C[i]? ≠ some (.and ps)) : j = i := by
  rcases h.cases with h | ⟨ps, _, e, _⟩
  · exact h
  · exact absurd e (hi ps)
theorem Rc.one {n : Nat} {C : Ck} (W : WF n C) {j : Nat} (h : Rc C 1 j) : j = 1 := h.notAnd fun ps e => by rw [W.tru] at e; cases e
theorem Rc.up {C C' : Ck} (e : C <+: C') {i j : Nat} (h : Rc C i j) : Rc C' i j := by
  induction h with
  | refl => exact .refl _
  | step a b _ ih => exact .step (get_ext e a) b ih
theorem Rc.down {n : Nat} {C C' : Ck} (W : WF n C) (e : C <+: C') {i j : Nat} (h : Rc C' i j) (hi : i < C.length) : Rc C i j := by
  induction h with
  | refl => exact .refl _
  | step a b _ ih =>
    rw [get_old e hi] at a
    have := W.and_parts a _ b
    exact .step a b (ih (by lia))
theorem Rc.ext {n : Nat} {C C' : Ck} (W : WF n C) (e : C <+: C') {i j : Nat} (hi : i < C.length) : Rc C' i j ↔ Rc C i j := ⟨fun h => h.down W e hi, fun h => h.up e⟩
theorem Rc.lt {n : Nat} {C : Ck} (W : WF n C) {i j : Nat} (h : Rc C i j) (hi : i < C.length) : j < C.length := Nat.lt_of_le_of_lt (h.le W).1 hi
theorem Sp.ext {n : Nat} {C C' : Ck} (W : WF n C) (e : C <+: C') {i x : Nat} (hi : i < C.length) : Sp C' i x ↔ Sp C i x := by
  unfold Sp
  rw [Rc.ext W e hi]
  constructor
  · rintro ⟨a, b⟩; exact ⟨a, by rw [← get_old e (a.lt W hi)]; exact b⟩
  · rintro ⟨a, b⟩; exact ⟨a, get_ext e b⟩
theorem Few.ext {n : Nat} {C C' : Ck} (W : WF n C) (e : C <+: C') {i M : Nat} (hi : i < C.length) (h : Few C i M) : Few C' i M := by
  obtain ⟨l, a, b⟩ := h
  exact ⟨l, a, fun j hj => b j (hj.down W e hi)⟩
theorem Sp.range {n : Nat} {C : Ck} (W : WF n C) {i x : Nat} (h : Sp C i x) : 2 ≤ x ∧ x < n + 2 := by
  have hlt := (List.getElem?_eq_some_iff.mp h.2).1
  by_cases h0 : x = 0
  · subst h0; have := h.2; rw [W.pad] at this; cases this
  by_cases h1 : x = 1
  · subst h1; have := h.2; rw [W.tru] at this; cases this
  refine ⟨by lia, ?_⟩
  by_cases h2 : x < n + 2
  · exact h2
  · obtain ⟨ps, e, _⟩ := W.and x (by (first | exact Nat.not_lt.mp (by assumption) | lia)) hlt
    have := h.2; rw [e] at this; cases this
theorem Sp.and {C : Ck} {i x : Nat} {ps : List Int} (h : C[i]? = some (.and ps)) : Sp C i x ↔ ∃ p ∈ ps, Sp C p.natAbs x := by
  constructor
  · rintro ⟨a, b⟩
    rcases a.cases with rfl | ⟨ps', p, e, hp, r⟩
    · rw [h] at b; cases b
    · rw [h] at e; cases e; exact ⟨p, hp, r, b⟩
  · rintro ⟨p, hp, a, b⟩; exact ⟨.step h hp a, b⟩
theorem Sp.inp {C : Ck} {i x : Nat} (h : C[i]? = some .inp) : Sp C i x ↔ x = i := by
  constructor
  · rintro ⟨a, b⟩; exact a.notAnd fun ps e => by rw [h] at e; cases e
  · rintro rfl; exact ⟨.refl _, h⟩
theorem Sp.none {C : Ck} {i x : Nat} (h1 : C[i]? ≠ some .inp) (h2 : ∀ ps, C[i]? ≠ some (.and ps)) : ¬ Sp C i x := by
  rintro ⟨a, b⟩
  have := a.notAnd h2
  subst this; exact h1 b
theorem gate_kind {n : Nat} {C : Ck} (W : WF n C) {i : Nat} (h2 : 2 ≤ i) (hi : i < C.length) : (i < n + 2 ∧ C[i]? = some .inp) ∨ (n + 2 ≤ i ∧ ∃ ps, C[i]? = some (.and ps)) := by
  by_cases h : i < n + 2
  · exact .inl ⟨h, W.inp i h2 h⟩
  · obtain ⟨ps, e, _⟩ := W.and i (by (first | exact Nat.not_lt.mp (by assumption) | lia)) hi
    exact .inr ⟨by (first | exact Nat.not_lt.mp (by assumption) | lia), ps, e⟩
theorem sp_some {n : Nat} {C : Ck} (W : WF n C) : ∀ (i : Nat), 2 ≤ i → i < C.length → ∃ x, Sp C i x := by
  intro i
  induction i using Nat.strongRecOn with
  | ind i ih =>
    intro h2 hi
    rcases gate_kind W h2 hi with ⟨_, e⟩ | ⟨_, ps, e⟩
    · exact ⟨i, (Sp.inp e).mpr rfl⟩
    · obtain ⟨_, l2, _, _, hp, _⟩ := W.at e
      cases ps with | nil => exact absurd l2 (by decide) | cons p ps =>
        have := hp p (List.mem_cons_self ..)
        obtain ⟨x, hx⟩ := ih p.natAbs this.2 this.1 (by lia)
        exact ⟨x, (Sp.and e).mpr ⟨p, List.mem_cons_self .., hx⟩⟩
/-- a gate's value hangs on its support alone -/
theorem vl_dep {n : Nat} {C : Ck} (W : WF n C) {ρ ρ' : Nat → Bool} : ∀ (i : Nat), i < C.length → (∀ x, Sp C i x → ρ x = ρ' x) → vl ρ C i = vl ρ' C i := by
  intro i
  induction i using Nat.strongRecOn with
  | ind i ih =>
    intro hi h
    have hg : C[i]? = some C[i] := List.getElem?_eq_getElem hi
    cases hc : C[i] with
    | and ps =>
      rw [hc] at hg
      rw [vl_and W hg, vl_and W hg, Bool.eq_iff_iff, List.all_eq_true, List.all_eq_true]
      have key : ∀ p ∈ ps, Vl ρ C p = Vl ρ' C p := fun p hp => by
        have := W.and_parts hg p hp
        unfold Vl
        rw [ih p.natAbs this.2 (by lia) fun x hx => h x ((Sp.and hg).mpr ⟨p, hp, hx⟩)]
      constructor
      · intro z p hp; rw [← key p hp]; exact z p hp
      · intro z p hp; rw [key p hp]; exact z p hp
    | inp =>
      rw [hc] at hg
      obtain ⟨a1, l1, e1, _⟩ := vl_at ρ C hg
      obtain ⟨a2, l2, e2, _⟩ := vl_at ρ' C hg
      rw [e1, e2]
      show ρ a1.length = ρ' a2.length
      rw [l1, l2]; exact h i ((Sp.inp hg).mpr rfl)
    | tru =>
      rw [hc] at hg
      obtain ⟨a1, l1, e1, _⟩ := vl_at ρ C hg
      obtain ⟨a2, l2, e2, _⟩ := vl_at ρ' C hg
      rw [e1, e2]; rfl
    | pad =>
      rw [hc] at hg
      obtain ⟨a1, l1, e1, _⟩ := vl_at ρ C hg
      obtain ⟨a2, l2, e2, _⟩ := vl_at ρ' C hg
      rw [e1, e2]; rfl
theorem vl_one {n : Nat} {C : Ck} (W : WF n C) (ρ : Nat → Bool) : vl ρ C 1 = true := by
  obtain ⟨a1, l1, e1, _⟩ := vl_at ρ C W.tru
  rw [e1]; rfl
theorem vl_inp {C : Ck} {i : Nat} (h : C[i]? = some .inp) (ρ : Nat → Bool) : vl ρ C i = ρ i := by
  obtain ⟨a1, l1, e1, _⟩ := vl_at ρ C h
  rw [e1]; show ρ a1.length = _; rw [l1]
theorem lt_neg (b : Bool) {p : Int} (h : p ≠ 0) : lt b (-p) = !lt b p := by
  unfold lt
  by_cases h1 : 0 < p
  · rw [if_pos h1, if_neg (by lia)]
  · rw [if_neg h1, if_pos (by lia)]; simp
theorem Vl_neg {ρ : Nat → Bool} {C : Ck} {g : Int} (h : Vd C g) : Vl ρ C (-g) = !Vl ρ C g := by
  unfold Vl; rw [Int.natAbs_neg, lt_neg _ (by have := h.1; lia)]
theorem Vl_one {n : Nat} {C : Ck} (W : WF n C) (ρ : Nat → Bool) : Vl ρ C 1 = true := by
  unfold Vl; rw [show (1 : Int).natAbs = 1 from rfl, vl_one W]; rfl
theorem Vl_mone {n : Nat} {C : Ck} (W : WF n C) (ρ : Nat → Bool) : Vl ρ C (-1) = false := by
  unfold Vl; rw [show (-1 : Int).natAbs = 1 from rfl, vl_one W]; rfl
theorem Vl_nat {ρ : Nat → Bool} {C : Ck} {i : Nat} (h : 1 ≤ i) : Vl ρ C (i : Int) = vl ρ C i := by
  unfold Vl lt; rw [if_pos (by (first | exact Int.ofNat_lt.mpr (by assumption) | lia))]; rfl

/-! ## what `all_of` gives back -/
noncomputable def AllOf (C : Ck) (gs : List Int) (r : Int) (C' : Ck) : Prop :=
  (r = -1 ∧ C' = C ∧ ((-1) ∈ gs ∨ ∃ g ∈ gs, -g ∈ gs)) ∨ (r = 1 ∧ C' = C ∧ ∀ g ∈ gs, g = 1) ∨ (r ∈ gs ∧ r ≠ 1 ∧ r ≠ -1 ∧ C' = C ∧ ∀ g ∈ gs, g = 1 ∨ g = r) ∨
  ∃ (ps : List Int) (i : Nat), (∀ p, p ∈ ps ↔ p ∈ gs ∧ p ≠ 1) ∧ -1 ∉ gs ∧ (∀ p ∈ ps, -p ∉ ps) ∧ 2 ≤ ps.length ∧ ps.length ≤ 3 ∧ ps.Nodup ∧ r = (i : Int) ∧ C'[i]? = some (.and ps) ∧ (C' = C ∨ C' = C ++ [.and ps] ∧ i = C.length)
theorem AllOf.pre {C C' : Ck} {gs : List Int} {r : Int} (h : AllOf C gs r C') : C <+: C' ∧ C'.length ≤ C.length + 1 := by
  rcases h with ⟨_, rfl, _⟩ | ⟨_, rfl, _⟩ | ⟨_, _, _, rfl, _⟩ | ⟨ps, i, _, _, _, _, _, _, _, _, h⟩
  · exact ⟨List.prefix_refl _, by (first | exact Nat.le_succ _ | lia)⟩
  · exact ⟨List.prefix_refl _, by (first | exact Nat.le_succ _ | lia)⟩
  · exact ⟨List.prefix_refl _, by (first | exact Nat.le_succ _ | lia)⟩
  · rcases h with rfl | ⟨rfl, _⟩
    · exact ⟨List.prefix_refl _, by (first | exact Nat.le_succ _ | lia)⟩
    · exact ⟨⟨_, rfl⟩, by simp⟩
theorem AllOf.wf {n : Nat} {C C' : Ck} {gs : List Int} {r : Int} (W : WF n C) (h : AllOf C gs r C') (hg : ∀ g ∈ gs, Vd C g) : WF n C' := by
  rcases h with ⟨_, rfl, _⟩ | ⟨_, rfl, _⟩ | ⟨_, _, _, rfl, _⟩ | ⟨ps, i, hm, h1, h2, l2, l3, nd, rfl, hi, h⟩
  · exact W
  · exact W
  · exact W
  · rcases h with rfl | ⟨rfl, rfl⟩
    · exact W
    · have e : C <+: C ++ [Gt.and ps] := ⟨_, rfl⟩
      refine ⟨by have := W.len; simp; (first | exact Nat.le_of_lt (by assumption) | lia), get_ext e W.pad, get_ext e W.tru, fun i a b => get_ext e (W.inp i a b), fun i a b => ?_⟩
      by_cases hi' : i < C.length
      · obtain ⟨ps', x, y⟩ := W.and i a hi'
        exact ⟨ps', get_ext e x, y⟩
      · have : i = C.length := by simp at b; lia
        subst this
        refine ⟨ps, hi, l2, l3, nd, fun p hp => ?_, h2⟩
        obtain ⟨q1, q2⟩ := (hm p).mp hp
        obtain ⟨v1, v2⟩ := hg p q1
        refine ⟨?_, v2⟩
        by_cases z : p = -1
        · subst z; exact absurd q1 h1
        · lia
theorem AllOf.vd {n : Nat} {C C' : Ck} {gs : List Int} {r : Int} (W : WF n C) (h : AllOf C gs r C') (hg : ∀ g ∈ gs, Vd C g) : Vd C' r := by
  have hl := W.len
  rcases h with ⟨rfl, rfl, _⟩ | ⟨rfl, rfl, _⟩ | ⟨hr, _, _, rfl, _⟩ | ⟨ps, i, hm, h1, h2, l2, l3, nd, rfl, hi, h⟩
  · exact ⟨by decide, by show 1 < _; (first | exact Nat.lt_of_le_of_lt (Nat.le_add_left ..) (by assumption) | lia)⟩
  · exact ⟨by decide, by show 1 < _; (first | exact Nat.lt_of_le_of_lt (Nat.le_add_left ..) (by assumption) | lia)⟩
  · exact hg r hr
  · refine ⟨?_, (List.getElem?_eq_some_iff.mp hi).1⟩
    rcases h with rfl | ⟨rfl, rfl⟩
    · have := (W.at hi).ge; show 1 ≤ i; (first | exact Nat.lt_of_le_of_lt (Nat.le_add_left ..) (by assumption) | lia)
    · show 1 ≤ C.length; (first | exact Nat.lt_of_le_of_lt (Nat.le_add_left ..) (by assumption) | lia)
theorem AllOf.val {n : Nat} {C C' : Ck} {gs : List Int} {r : Int} (W : WF n C) (h : AllOf C gs r C') (hg : ∀ g ∈ gs, Vd C g) (ρ : Nat → Bool) : Vl ρ C' r = gs.all fun g => Vl ρ C g := by
  have W' := h.wf W hg
  have e := h.pre.1
  rw [Bool.eq_iff_iff, List.all_eq_true]
  rcases h with ⟨rfl, rfl, h⟩ | ⟨rfl, rfl, h⟩ | ⟨hr, _, _, rfl, h⟩ | ⟨ps, i, hm, h1, h2, l2, l3, nd, rfl, hi, h⟩
  · rw [Vl_mone W]
    refine ⟨nofun, fun z => ?_⟩
    rcases h with h | ⟨g, a, b⟩
    · have := z _ h; rw [Vl_mone W] at this; exact this
    · have z1 := z _ a; have z2 := z _ b
      rw [Vl_neg (hg g a), z1] at z2; cases z2
  · rw [Vl_one W]
    exact ⟨fun _ g hg' => by rw [h g hg']; exact Vl_one W ρ, fun _ => rfl⟩
  · refine ⟨fun z g hg' => ?_, fun z => z r hr⟩
    rcases h g hg' with rfl | rfl
    · exact Vl_one W ρ
    · exact z
  · have hi1 : 1 ≤ i := by have := (W'.at hi).ge; (first | exact Nat.lt_of_le_of_lt (Nat.le_add_left ..) (by assumption) | lia)
    rw [Vl_nat hi1, vl_and W' hi, List.all_eq_true]
    constructor
    · intro z g hg'
      by_cases q : g = 1
      · subst q; exact Vl_one W ρ
      · rw [← Vl_ext e (hg g hg')]; exact z g ((hm g).mpr ⟨hg', q⟩)
    · intro z p hp
      have := (hm p).mp hp
      rw [Vl_ext e (hg p this.1)]; exact z p this.1
end Mine
end
section
open PySem PySem.W PyProof.Rows
set_option maxRecDepth 100000
set_option linter.unusedVariables false
set_option autoImplicit false
namespace Mine
noncomputable def upd (ρ : Nat → Bool) (x : Nat) (c : Bool) : Nat → Bool := fun y => if y = x then c else ρ y
/-- T j stands in C1 for gate j of C with input x put to v -/
structure Gd (C C1 : Ck) (x : Nat) (v : Int) (T : Nat → Int) (j : Nat) : Prop where
  vd : Vd C1 (T j)
  val : ∀ ρ, Vl ρ C1 (T j) = vl (upd ρ x (decide (0 < v))) C j
  rc : ∀ k, Rc C1 (T j).natAbs k → ∃ m, Rc C j m ∧ k = (T m).natAbs
  sp : ∀ y, Sp C1 (T j).natAbs y → Sp C j y ∧ y ≠ x
section
variable {n : Nat} {C C1 C2 : Ck} {x : Nat} {v : Int} {T : Nat → Int}
theorem gd_mono (W1 : WF n C1) (W : WF n C) (e : C1 <+: C2) {h : Nat} {r : Int} {j : Nat} (hj : j < h) (g : Gd C C1 x v T j) : Gd C C2 x v (fun m => if m = h then r else T m) j := by
  have ej : (if j = h then r else T j) = T j := if_neg (by (first | exact Nat.ne_of_lt (by assumption) | lia))
  refine ⟨?_, fun ρ => ?_, fun k hk => ?_, fun y hy => ?_⟩
  · show Vd C2 (if j = h then r else T j); rw [ej]; exact g.vd.ext e
  · show Vl ρ C2 (if j = h then r else T j) = _; rw [ej, Vl_ext e g.vd]; exact g.val ρ
  · replace hk : Rc C2 (if j = h then r else T j).natAbs k := hk
    rw [ej] at hk
    obtain ⟨m, h1, h2⟩ := g.rc k ((Rc.ext W1 e g.vd.2).mp hk)
    refine ⟨m, h1, ?_⟩
    have := (h1.le W).1
    show k = (if m = h then r else T m).natAbs
    rw [if_neg (by (first | exact Nat.ne_of_lt (Nat.lt_of_le_of_lt (by assumption) (by assumption)) | lia))]; exact h2
  · replace hy : Sp C2 (if j = h then r else T j).natAbs y := hy
    rw [ej] at hy
    exact g.sp y ((Sp.ext W1 e g.vd.2).mp hy)
theorem gd_x (W : WF n C) (W1 : WF n C1) (hx : C[x]? = some .inp) (hT : T x = v) (hv : v = 1 ∨ v = -1) : Gd C C1 x v T x := by
  have ha : v.natAbs = 1 := by rcases hv with rfl | rfl <;> rfl
  have hl := W1.len
  refine ⟨by rw [hT]; exact ⟨by lia, by lia⟩, fun ρ => ?_, fun k hk => ?_, fun y hy => ?_⟩
  · rw [hT, vl_inp hx]
    unfold upd
    rw [if_pos rfl]
    rcases hv with rfl | rfl
    · rw [Vl_one W1]; rfl
    · rw [Vl_mone W1]; rfl
  · rw [hT, ha] at hk
    exact ⟨x, .refl _, by rw [hT, ha]; exact hk.one W1⟩
  · rw [hT, ha] at hy
    exact absurd hy (Sp.none (by rw [W1.tru]; nofun) (fun ps e => by rw [W1.tru] at e; cases e))
theorem gd_same (W : WF n C) (e : C <+: C1) {h : Nat} (h1 : 1 ≤ h) (hl : h < C.length) (hx : C[x]? = some .inp) (hn : ¬ Sp C h x) (hT : ∀ m, Rc C h m → T m = (m : Int)) : Gd C C1 x v T h := by
  have hTh := hT h (.refl _)
  have ha : (T h).natAbs = h := by rw [hTh]; rfl
  refine ⟨?_, fun ρ => ?_, fun k hk => ?_, fun y hy => ?_⟩
  · unfold Vd; rw [ha]; exact ⟨h1, Nat.lt_of_lt_of_le hl e.length_le⟩
  · rw [hTh, Vl_nat h1, vl_ext e hl]
    refine vl_dep W h hl fun y hy => ?_
    unfold upd
    rw [if_neg]
    rintro rfl; exact hn hy
  · rw [ha] at hk
    have := (Rc.ext W e hl).mp hk
    exact ⟨k, this, by rw [hT k this]; rfl⟩
  · rw [ha] at hy
    have := (Sp.ext W e hl).mp hy
    exact ⟨this, fun z => hn (z ▸ this)⟩
noncomputable def turn (T : Nat → Int) (p : Int) : Int := if 0 < p then T p.natAbs else -T p.natAbs
theorem turn_abs (T : Nat → Int) (p : Int) : (turn T p).natAbs = (T p.natAbs).natAbs := by
  unfold turn; split <;> simp
theorem turn_vd {p : Int} (g : Vd C1 (T p.natAbs)) : Vd C1 (turn T p) := by
  unfold Vd; rw [turn_abs]; exact g
theorem turn_val {ρ : Nat → Bool} {p : Int} (g : Gd C C1 x v T p.natAbs) : Vl ρ C1 (turn T p) = Vl (upd ρ x (decide (0 < v))) C p := by
  unfold turn
  have hv := g.val ρ
  split
  · rename_i h; rw [hv]; unfold Vl lt; rw [if_pos h]
  · rename_i h; rw [Vl_neg g.vd, hv]; unfold Vl lt; rw [if_neg h]
theorem gd_new (W : WF n C) (W1 : WF n C1) {h : Nat} {ps : List Int} (hc : C[h]? = some (.and ps)) (hxin : Sp C h x) (hx1 : (T x).natAbs = 1) (hne : h ≠ x) (hg : ∀ p ∈ ps, Gd C C1 x v T p.natAbs) {r : Int} (ha : AllOf C1 (ps.map (turn T)) r C2) :
    Gd C C2 x v (fun m => if m = h then r else T m) h := by
  have hvd : ∀ g ∈ ps.map (turn T), Vd C1 g := fun g hg' => by
    obtain ⟨p, hp, rfl⟩ := List.mem_map.mp hg'
    exact turn_vd (hg p hp).vd
  have e := ha.pre.1
  have W2 := ha.wf W1 hvd
  have er : (if h = h then r else T h) = r := if_pos rfl
  -- what a part's reach gives
  have part : ∀ p ∈ ps, ∀ k, Rc C2 (turn T p).natAbs k → ∃ m, Rc C h m ∧ k = (if m = h then r else T m).natAbs := fun p hp k hk => by
    rw [turn_abs] at hk
    obtain ⟨m, h1, h2⟩ := (hg p hp).rc k ((Rc.ext W1 e (hg p hp).vd.2).mp hk)
    have hlt := W.and_parts hc p hp
    have := (h1.le W).1
    exact ⟨m, .step hc hp h1, by rw [if_neg (by lia)]; exact h2⟩
  have partS : ∀ p ∈ ps, ∀ y, Sp C2 (turn T p).natAbs y → Sp C h y ∧ y ≠ x := fun p hp y hy => by
    rw [turn_abs] at hy
    obtain ⟨h1, h2⟩ := (hg p hp).sp y ((Sp.ext W1 e (hg p hp).vd.2).mp hy)
    exact ⟨(Sp.and hc).mpr ⟨p, hp, h1⟩, h2⟩
  refine ⟨?_, fun ρ => ?_, fun k hk => ?_, fun y hy => ?_⟩
  · show Vd C2 (if h = h then r else T h); rw [er]; exact ha.vd W1 hvd
  · show Vl ρ C2 (if h = h then r else T h) = _
    rw [er, ha.val W1 hvd, vl_and W hc, List.all_map, Bool.eq_iff_iff, List.all_eq_true, List.all_eq_true]
    have key : ∀ p ∈ ps, (((fun g => Vl ρ C1 g) ∘ turn T) p = true ↔ Vl (upd ρ x (decide (0 < v))) C p = true) := fun p hp => by
      show Vl ρ C1 (turn T p) = true ↔ _
      rw [turn_val (hg p hp)]
    exact ⟨fun z p hp => (key p hp).mp (z p hp), fun z p hp => (key p hp).mpr (z p hp)⟩
  · replace hk : Rc C2 (if h = h then r else T h).natAbs k := hk
    rw [er] at hk
    have one : r.natAbs = 1 → ∃ m, Rc C h m ∧ k = (if m = h then r else T m).natAbs := fun h1 => by
      rw [h1] at hk
      exact ⟨x, hxin.1, by rw [if_neg (Ne.symm hne), hx1]; exact hk.one W2⟩
    rcases id ha with ⟨rfl, _, _⟩ | ⟨rfl, _, _⟩ | ⟨hr, _, _, _, _⟩ | ⟨qs, i, hm, _, _, _, _, _, rfl, hi, _⟩
    · exact one rfl
    · exact one rfl
    · obtain ⟨p, hp, rfl⟩ := List.mem_map.mp hr
      exact part p hp k hk
    · rcases hk.cases with hk | ⟨qs', q, hq, hqm, hk⟩
      · exact ⟨h, .refl _, by rw [if_pos rfl]; exact hk⟩
      · have hi' : C2[((i : Int)).natAbs]? = some (.and qs) := hi
        rw [hi'] at hq; cases hq
        obtain ⟨p, hp, rfl⟩ := List.mem_map.mp ((hm q).mp hqm).1
        exact part p hp k hk
  · replace hy : Sp C2 (if h = h then r else T h).natAbs y := hy
    rw [er] at hy
    have one : r.natAbs = 1 → False := fun h1 => by
      rw [h1] at hy
      exact Sp.none (by rw [W2.tru]; nofun) (fun ps e => by rw [W2.tru] at e; cases e) hy
    rcases id ha with ⟨rfl, _, _⟩ | ⟨rfl, _, _⟩ | ⟨hr, _, _, _, _⟩ | ⟨qs, i, hm, _, _, _, _, _, rfl, hi, _⟩
    · exact (one rfl).elim
    · exact (one rfl).elim
    · obtain ⟨p, hp, rfl⟩ := List.mem_map.mp hr
      exact partS p hp y hy
    · have hi' : C2[((i : Int)).natAbs]? = some (.and qs) := hi
      obtain ⟨q, hq, hy⟩ := (Sp.and hi').mp hy
      obtain ⟨p, hp, rfl⟩ := List.mem_map.mp ((hm q).mp hq).1
      exact partS p hp y hy
/-- few gates below stay few -/
theorem gd_few {j M : Nat} (f : Few C j M) (g : Gd C C1 x v T j) : Few C1 (T j).natAbs M := by
  obtain ⟨fl, h1, h2⟩ := f
  refine ⟨fl.map fun m => (T m).natAbs, by simpa using h1, fun k hk => ?_⟩
  obtain ⟨m, hm, rfl⟩ := g.rc k hk
  exact List.mem_map.mpr ⟨m, h2 m hm, rfl⟩
theorem fewAll_new {gs : List Int} {r : Int} (W1 : WF n C1) (F : FewAll C1) (ha : AllOf C1 gs r C2) (hr : Few C2 r.natAbs 24) : FewAll C2 := by
  intro i hi
  by_cases h : i < C1.length
  · exact (F i h).ext W1 ha.pre.1 h
  · rcases ha with ⟨_, rfl, _⟩ | ⟨_, rfl, _⟩ | ⟨_, _, _, rfl, _⟩ | ⟨ps, j, _, _, _, _, _, _, rfl, _, rfl | ⟨rfl, rfl⟩⟩
    · exact absurd hi h
    · exact absurd hi h
    · exact absurd hi h
    · exact absurd hi h
    · have : i = C1.length := by simp at hi; lia
      subst this; exact hr
end
end Mine
end
section
open PySem PySem.W PyProof.Rows
set_option maxRecDepth 100000
set_option linter.unusedVariables false
set_option autoImplicit false
namespace Mine
/-! ## sums over the assignments of the inputs 2 .. n + 1 -/
noncomputable def Sm : Nat → ((Nat → Bool) → Bool) → Nat
  | 0, f => (f fun _ => false).toNat
  | k + 1, f => Sm k (fun ρ => f (upd ρ (k + 2) false)) + Sm k (fun ρ => f (upd ρ (k + 2) true))
noncomputable def Dep (f : (Nat → Bool) → Bool) (D : Nat → Prop) : Prop := ∀ ρ ρ' : Nat → Bool, (∀ x, D x → ρ x = ρ' x) → f ρ = f ρ'
theorem Sm_congr {f g : (Nat → Bool) → Bool} (h : ∀ ρ, f ρ = g ρ) (n : Nat) : Sm n f = Sm n g := by
  rw [show f = g from funext h]
theorem Dep.upd {f : (Nat → Bool) → Bool} {D : Nat → Prop} (h : Dep f D) (x : Nat) (c : Bool) : Dep (fun ρ => f (upd ρ x c)) D := fun ρ ρ' e => h _ _ fun y hy => by
  unfold Mine.upd; by_cases z : y = x
  · rw [if_pos z, if_pos z]
  · rw [if_neg z, if_neg z]; exact e y hy
theorem Dep.free {f : (Nat → Bool) → Bool} {D : Nat → Prop} (h : Dep f D) {x : Nat} (hx : ¬ D x) (c : Bool) (ρ : Nat → Bool) : f (Mine.upd ρ x c) = f ρ := h _ _ fun y hy => by
  unfold Mine.upd; rw [if_neg]; rintro rfl; exact hx hy
theorem Sm_true : ∀ n, Sm n (fun _ => true) = 2 ^ n
  | 0 => rfl
  | n + 1 => by unfold Sm; rw [Sm_true n, Nat.pow_succ, Nat.mul_two]
theorem Sm_false : ∀ n, Sm n (fun _ => false) = 0
  | 0 => rfl
  | n + 1 => by unfold Sm; rw [Sm_false n]
theorem Sm_not : ∀ (n : Nat) (f : (Nat → Bool) → Bool), Sm n f + Sm n (fun ρ => !f ρ) = 2 ^ n
  | 0, f => by
    show (f fun _ => false).toNat + (!(f fun _ => false)).toNat = 1
    cases f fun _ => false <;> rfl
  | n + 1, f => by
    show Sm n (fun ρ => f (upd ρ (n + 2) false)) + Sm n (fun ρ => f (upd ρ (n + 2) true)) + (Sm n (fun ρ => !f (upd ρ (n + 2) false)) + Sm n (fun ρ => !f (upd ρ (n + 2) true))) = 2 ^ (n + 1)
    have h0 := Sm_not n (fun ρ => f (upd ρ (n + 2) false))
    have h1 := Sm_not n (fun ρ => f (upd ρ (n + 2) true))
    rw [Nat.pow_succ, Nat.mul_two, Nat.add_add_add_comm, h0, h1]
theorem indep_step {n : Nat} {f g : (Nat → Bool) → Bool} {D E : Nat → Prop} (hf : Dep f D) (hg : Dep g E) (hE : ¬ E (n + 2))
    (ih : ∀ c, Sm n (fun ρ => f (upd ρ (n + 2) c) && g ρ) * 2 ^ n = Sm n (fun ρ => f (upd ρ (n + 2) c)) * Sm n g) : Sm (n + 1) (fun ρ => f ρ && g ρ) * 2 ^ (n + 1) = Sm (n + 1) f * Sm (n + 1) g := by
  have e : ∀ c, Sm n (fun ρ => f (upd ρ (n + 2) c) && g (upd ρ (n + 2) c)) = Sm n (fun ρ => f (upd ρ (n + 2) c) && g ρ) := fun c => Sm_congr (fun ρ => by rw [hg.free hE]) n
  have e2 : ∀ c, Sm n (fun ρ => g (upd ρ (n + 2) c)) = Sm n g := fun c => Sm_congr (fun ρ => hg.free hE c ρ) n
  show (Sm n (fun ρ => f (upd ρ (n + 2) false) && g (upd ρ (n + 2) false)) + Sm n (fun ρ => f (upd ρ (n + 2) true) && g (upd ρ (n + 2) true))) * 2 ^ (n + 1) =
    (Sm n (fun ρ => f (upd ρ (n + 2) false)) + Sm n (fun ρ => f (upd ρ (n + 2) true))) * (Sm n (fun ρ => g (upd ρ (n + 2) false)) + Sm n (fun ρ => g (upd ρ (n + 2) true)))
  rw [e, e, e2, e2, Nat.pow_succ]
  have i0 := ih false
  have i1 := ih true
  generalize Sm n (fun ρ => f (upd ρ (n + 2) false) && g ρ) = a0 at *
  generalize Sm n (fun ρ => f (upd ρ (n + 2) true) && g ρ) = a1 at *
  generalize Sm n (fun ρ => f (upd ρ (n + 2) false)) = f0 at *
  generalize Sm n (fun ρ => f (upd ρ (n + 2) true)) = f1 at *
  generalize Sm n g = G at *
  generalize 2 ^ n = p at *
  rw [Nat.add_mul, ← Nat.mul_assoc, ← Nat.mul_assoc, i0, i1, Nat.add_mul, Nat.mul_add, Nat.mul_add]
  lia
theorem Sm_indep : ∀ (n : Nat) {f g : (Nat → Bool) → Bool} {D E : Nat → Prop}, Dep f D → Dep g E → (∀ x, D x → ¬ E x) → Sm n (fun ρ => f ρ && g ρ) * 2 ^ n = Sm n f * Sm n g
  | 0, f, g, D, E, _, _, _ => by
    show ((f fun _ => false) && (g fun _ => false)).toNat * 1 = (f fun _ => false).toNat * (g fun _ => false).toNat
    cases f fun _ => false <;> cases g fun _ => false <;> rfl
  | n + 1, f, g, D, E, hf, hg, hd => by
    by_cases hE : E (n + 2)
    · have hD : ¬ D (n + 2) := fun h => hd _ h hE
      have := indep_step hg hf hD fun c => Sm_indep n (hg.upd _ c) hf fun x h h' => hd x h' h
      rw [Sm_congr (fun ρ => Bool.and_comm (f ρ) (g ρ)) (n + 1), this, Nat.mul_comm]
    · exact indep_step hf hg hE fun c => Sm_indep n (hf.upd _ c) hg hd
theorem upd_upd (ρ : Nat → Bool) (x : Nat) (c c' : Bool) : upd (upd ρ x c') x c = upd ρ x c := by
  funext y; unfold upd; by_cases h : y = x <;> simp [h]
theorem upd_comm (ρ : Nat → Bool) {x y : Nat} (h : x ≠ y) (c c' : Bool) : upd (upd ρ y c') x c = upd (upd ρ x c) y c' := by
  funext z; unfold upd
  by_cases h1 : z = x
  · subst h1; simp [h]
  · by_cases h2 : z = y
    · subst h2; simp [h1]
    · simp [h1, h2]
theorem Sm_split : ∀ (n : Nat) (f : (Nat → Bool) → Bool) {x : Nat}, 2 ≤ x → x < n + 2 → Sm n (fun ρ => f (upd ρ x false)) + Sm n (fun ρ => f (upd ρ x true)) = 2 * Sm n f
  | 0, f, x, h, h' => by lia
  | n + 1, f, x, h, h' => by
    by_cases hx : x = n + 2
    · subst hx
      have e : ∀ c c', Sm n (fun ρ => f (upd (upd ρ (n + 2) c') (n + 2) c)) = Sm n (fun ρ => f (upd ρ (n + 2) c)) := fun c c' => Sm_congr (fun ρ => by rw [upd_upd]) n
      show Sm n (fun ρ => f (upd (upd ρ (n + 2) false) (n + 2) false)) + Sm n (fun ρ => f (upd (upd ρ (n + 2) true) (n + 2) false)) + (Sm n (fun ρ => f (upd (upd ρ (n + 2) false) (n + 2) true)) + Sm n (fun ρ => f (upd (upd ρ (n + 2) true) (n + 2) true))) = 2 * (Sm n (fun ρ => f (upd ρ (n + 2) false)) + Sm n (fun ρ => f (upd ρ (n + 2) true)))
      rw [e, e, e, e, Nat.two_mul, Nat.add_add_add_comm]
    · have e : ∀ c c', Sm n (fun ρ => f (upd (upd ρ (n + 2) c') x c)) = Sm n (fun ρ => (fun ρ => f (upd ρ (n + 2) c')) (upd ρ x c)) := fun c c' => Sm_congr (fun ρ => by rw [upd_comm ρ hx]) n
      show Sm n (fun ρ => f (upd (upd ρ (n + 2) false) x false)) + Sm n (fun ρ => f (upd (upd ρ (n + 2) true) x false)) + (Sm n (fun ρ => f (upd (upd ρ (n + 2) false) x true)) + Sm n (fun ρ => f (upd (upd ρ (n + 2) true) x true))) = 2 * (Sm n (fun ρ => f (upd ρ (n + 2) false)) + Sm n (fun ρ => f (upd ρ (n + 2) true)))
      rw [e, e, e, e]
      have i0 := Sm_split n (fun ρ => f (upd ρ (n + 2) false)) h (Nat.lt_of_le_of_ne (Nat.le_of_lt_succ h') hx)
      have i1 := Sm_split n (fun ρ => f (upd ρ (n + 2) true)) h (Nat.lt_of_le_of_ne (Nat.le_of_lt_succ h') hx)
      exact (Nat.add_add_add_comm ..).trans ((congr (congrArg _ i0) i1).trans (Nat.mul_add ..).symm)
theorem Sm_inp {n x : Nat} (h : 2 ≤ x) (h' : x < n + 2) : 2 * Sm n (fun ρ => ρ x) = 2 ^ n := by
  have := Sm_split n (fun ρ => ρ x) h h'
  have e0 : Sm n (fun ρ => (fun ρ : Nat → Bool => ρ x) (upd ρ x false)) = Sm n (fun _ => false) := Sm_congr (fun ρ => by show (if x = x then false else ρ x) = false; simp) n
  have e1 : Sm n (fun ρ => (fun ρ : Nat → Bool => ρ x) (upd ρ x true)) = Sm n (fun _ => true) := Sm_congr (fun ρ => by show (if x = x then true else ρ x) = true; simp) n
  rw [e0, e1, Sm_false, Sm_true, Nat.zero_add] at this
  exact this.symm
/-! ## how many inputs -/
open Classical in
noncomputable def sn (n : Nat) (D : Nat → Prop) : Nat := ((List.range n).filter fun k => decide (D (k + 2))).length
theorem sn_le (n : Nat) (D : Nat → Prop) : sn n D ≤ n := by
  unfold sn
  have := List.length_filter_le (fun k => @decide (D (k + 2)) (Classical.propDecidable _)) (List.range n)
  simpa using this
open Classical in
theorem sn_add {D E U : Nat → Prop} (h : ∀ x, U x ↔ D x ∨ E x) (hd : ∀ x, D x → ¬ E x) (n : Nat) : sn n U = sn n D + sn n E := by
  unfold sn
  generalize List.range n = L
  induction L with
  | nil => rfl
  | cons k r ih =>
    simp only [List.filter_cons]
    by_cases h1 : D (k + 2)
    · have h2 := hd _ h1
      have h3 := (h (k + 2)).mpr (.inl h1)
      simp only [h1, h2, h3, decide_true, decide_false, if_true, Bool.false_eq_true, if_false, List.length_cons]; lia
    · by_cases h2 : E (k + 2)
      · have h3 := (h (k + 2)).mpr (.inr h2)
        simp only [h1, h2, h3, decide_true, decide_false, if_true, Bool.false_eq_true, if_false, List.length_cons]; lia
      · have h3 : ¬ U (k + 2) := fun z => ((h _).mp z).elim h1 h2
        simp only [h1, h2, h3, decide_false, Bool.false_eq_true, if_false]; exact ih
theorem sn_congr {D E : Nat → Prop} (h : ∀ x, D x ↔ E x) (n : Nat) : sn n D = sn n E := by rw [show D = E from funext fun x => propext (h x)]
open Classical in
open Classical in
theorem sn_pos {D : Nat → Prop} {n x : Nat} (hx : D x) (h : 2 ≤ x) (h' : x < n + 2) : 1 ≤ sn n D := by
  unfold sn
  refine List.length_pos_of_mem (a := x - 2) (List.mem_filter.mpr ⟨List.mem_range.mpr (Nat.sub_lt_right_of_lt_add h h'), ?_⟩)
  rw [Nat.sub_add_cancel h]
  exact decide_eq_true hx
open Classical in
theorem sn_lt {D E : Nat → Prop} {n x : Nat} (h : ∀ x, D x → E x) (hx : E x) (hn : ¬ D x) (h2 : 2 ≤ x) (h3 : x < n + 2) : sn n D + 1 ≤ sn n E := by
  have := sn_add (D := D) (E := fun x => E x ∧ ¬ D x) (U := E) (fun x => ⟨fun e => (Classical.em (D x)).elim .inl fun z => .inr ⟨e, z⟩, fun z => z.elim (h x) (·.1)⟩) (fun x d z => z.2 d) n
  rw [this]; exact Nat.add_le_add_left (sn_pos (D := fun x => E x ∧ ¬ D x) ⟨hx, hn⟩ h2 h3) _
open Classical in
theorem sn_keys {n : Nat} {D : Nat → Prop} {K : List Int} (nd : K.Nodup) (h : ∀ x, x ∈ K ↔ ∃ y : Nat, x = (y : Int) ∧ D y) (hr : ∀ y, D y → 2 ≤ y ∧ y < n + 2) : K.length = sn n D := by
  have hf : ∀ k, k ∈ (List.range n).filter (fun k => @decide (D (k + 2)) (Classical.propDecidable _)) ↔ k < n ∧ D (k + 2) := fun k => by
    rw [List.mem_filter, List.mem_range]
    exact and_congr_right fun _ => ⟨of_decide_eq_true, decide_eq_true⟩
  have nd2 : (((List.range n).filter fun k => @decide (D (k + 2)) (Classical.propDecidable _)).map fun k : Nat => ((k + 2 : Nat) : Int)).Nodup := by
    rw [List.Nodup, List.pairwise_map]
    exact (List.nodup_range.sublist List.filter_sublist).imp fun h e => h (by lia)
  have := (List.perm_ext_iff_of_nodup nd nd2).mpr fun x => by
    rw [h, List.mem_map]
    constructor
    · rintro ⟨y, rfl, hy⟩
      have := hr y hy
      exact ⟨y - 2, (hf _).mpr ⟨Nat.sub_lt_right_of_lt_add this.1 this.2, by rw [Nat.sub_add_cancel this.1]; exact hy⟩, congrArg _ (Nat.sub_add_cancel this.1)⟩
    · rintro ⟨k, hk, rfl⟩
      exact ⟨k + 2, rfl, ((hf k).mp hk).2⟩
  have := this.length_eq
  rw [List.length_map] at this
  exact this

/-! ## a gate's own number: over its own inputs alone -/
noncomputable def Own (n : Nat) (f : (Nat → Bool) → Bool) (D : Nat → Prop) (c : Nat) : Prop := c * 2 ^ (n - sn n D) = Sm n f
theorem ar5 {n a b : Nat} (h : a + b ≤ n) : n - a + (n - b) = n - (a + b) + n := by
  obtain ⟨c, rfl⟩ := Nat.le.dest h
  rw [Nat.add_sub_cancel_left, Nat.add_assoc, Nat.add_sub_cancel_left, Nat.add_left_comm a b c, Nat.add_sub_cancel_left, Nat.add_comm b c, Nat.add_assoc]
theorem ar6 {n d a : Nat} (h : a + 1 ≤ d) (hl : d ≤ n) : n - a = d - 1 - a + (n - d) + 1 := by
  rw [Nat.add_right_comm, Nat.sub_right_comm, Nat.sub_add_cancel (Nat.le_sub_of_add_le' h), Nat.add_comm, Nat.sub_add_sub_cancel hl (Nat.le_of_succ_le h)]
theorem own_and {n : Nat} {f g : (Nat → Bool) → Bool} {D E U : Nat → Prop} {c e : Nat} (hf : Dep f D) (hg : Dep g E) (hd : ∀ x, D x → ¬ E x) (hU : ∀ x, U x ↔ D x ∨ E x) (h1 : Own n f D c) (h2 : Own n g E e) : Own n (fun ρ => f ρ && g ρ) U (c * e) := by
  unfold Own at *
  have hs := sn_add hU hd n
  have hl := sn_le n U
  have hi := Sm_indep n hf hg hd
  rw [← h1, ← h2] at hi
  refine Nat.eq_of_mul_eq_mul_right (Nat.two_pow_pos n) ?_
  rw [hi, hs]
  have e1 : 2 ^ (n - sn n D) * 2 ^ (n - sn n E) = 2 ^ (n - (sn n D + sn n E)) * 2 ^ n := by
    rw [← Nat.pow_add, ← Nat.pow_add]; exact congrArg (2 ^ ·) (ar5 (hs ▸ hl))
  calc c * e * 2 ^ (n - (sn n D + sn n E)) * 2 ^ n = c * e * (2 ^ (n - (sn n D + sn n E)) * 2 ^ n) := by rw [Nat.mul_assoc]
    _ = c * e * (2 ^ (n - sn n D) * 2 ^ (n - sn n E)) := by rw [e1]
    _ = c * 2 ^ (n - sn n D) * (e * 2 ^ (n - sn n E)) := by rw [Nat.mul_assoc, Nat.mul_assoc, Nat.mul_left_comm e]
theorem own_le {n : Nat} {f : (Nat → Bool) → Bool} {D : Nat → Prop} {c : Nat} (h : Own n f D c) : c ≤ 2 ^ sn n D := by
  have h1 := Sm_not n f
  have hl := sn_le n D
  unfold Own at h
  refine Nat.le_of_mul_le_mul_right (c := 2 ^ (n - sn n D)) ?_ (Nat.two_pow_pos _)
  rw [h, ← Nat.pow_add, Nat.add_sub_cancel' hl]; exact Nat.le.intro h1
theorem own_not {n : Nat} {f : (Nat → Bool) → Bool} {D : Nat → Prop} {c : Nat} (h : Own n f D c) : Own n (fun ρ => !f ρ) D (2 ^ sn n D - c) := by
  have h1 := Sm_not n f
  have hl := sn_le n D
  unfold Own at *
  rw [Nat.sub_mul, h, ← Nat.pow_add, Nat.add_sub_cancel' hl, ← h1, Nat.add_sub_cancel_left]
theorem own_sum {n : Nat} {f f0 f1 : (Nat → Bool) → Bool} {D D0 D1 : Nat → Prop} {c0 c1 x : Nat} (e0 : ∀ ρ, f0 ρ = f (upd ρ x false)) (e1 : ∀ ρ, f1 ρ = f (upd ρ x true)) (hx : 2 ≤ x) (hx' : x < n + 2) (s0 : sn n D0 + 1 ≤ sn n D) (s1 : sn n D1 + 1 ≤ sn n D)
    (h0 : Own n f0 D0 c0) (h1 : Own n f1 D1 c1) : Own n f D (c0 * 2 ^ (sn n D - 1 - sn n D0) + c1 * 2 ^ (sn n D - 1 - sn n D1)) := by
  have hl := sn_le n D
  unfold Own at *
  have hs := Sm_split n f hx hx'
  rw [← Sm_congr e0 n, ← Sm_congr e1 n, ← h0, ← h1] at hs
  have p0 : 2 ^ (n - sn n D0) = 2 ^ (sn n D - 1 - sn n D0) * 2 ^ (n - sn n D) * 2 := by
    rw [← Nat.pow_add, ← Nat.pow_succ, ar6 s0 hl]
  have p1 : 2 ^ (n - sn n D1) = 2 ^ (sn n D - 1 - sn n D1) * 2 ^ (n - sn n D) * 2 := by
    rw [← Nat.pow_add, ← Nat.pow_succ, ar6 s1 hl]
  rw [p0, p1] at hs
  rw [Nat.add_mul, Nat.mul_assoc, Nat.mul_assoc]
  generalize 2 ^ (sn n D - 1 - sn n D0) * 2 ^ (n - sn n D) = u at *
  generalize 2 ^ (sn n D - 1 - sn n D1) * 2 ^ (n - sn n D) = w at *
  rw [← Nat.mul_assoc, ← Nat.mul_assoc, ← Nat.add_mul, Nat.mul_comm 2] at hs
  exact Nat.eq_of_mul_eq_mul_right (by decide) hs
end Mine
end
section
open PySem PySem.W PyProof.Rows
set_option maxRecDepth 100000
set_option linter.unusedVariables false
set_option autoImplicit false
namespace Mine
inductive All2 {α β : Type} (R : α → β → Prop) : List α → List β → Prop
  | nil : All2 R [] []
  | cons {x y xs ys} : R x y → All2 R xs ys → All2 R (x :: xs) (y :: ys)
section
variable {α β : Type} {R R' : α → β → Prop}
theorem All2.imp (h : ∀ x y, R x y → R' x y) {xs : List α} {ys : List β} (z : All2 R xs ys) : All2 R' xs ys := by
  induction z with
  | nil => exact .nil
  | cons a _ ih => exact .cons (h _ _ a) ih
theorem All2.mem {xs : List α} {ys : List β} {y : β} (z : All2 R xs ys) (h : y ∈ ys) : ∃ x, R x y := by
  induction z with
  | nil => cases h
  | cons a _ ih =>
    cases h with
    | head => exact ⟨_, a⟩
    | tail _ h => exact ih h
theorem All2.map {γ : Type} {f : α → γ} {R'' : γ → β → Prop} (h : ∀ x y, R x y → R'' (f x) y) {xs : List α} {ys : List β} (z : All2 R xs ys) : All2 R'' (xs.map f) ys := by
  induction z with
  | nil => exact .nil
  | cons a _ ih => exact .cons (h _ _ a) ih
theorem All2.len {xs : List α} {ys : List β} (z : All2 R xs ys) : xs.length = ys.length := by
  induction z with
  | nil => rfl
  | cons _ _ ih => exact congrArg Nat.succ ih
theorem All2.snoc {xs : List α} {ys : List β} {x : α} {y : β} (z : All2 R xs ys) (h : R x y) : All2 R (xs ++ [x]) (ys ++ [y]) := by
  induction z with
  | nil => exact .cons h .nil
  | cons a _ ih => exact .cons a ih
end
theorem all2_one {α β : Type} {R : α → β → Prop} {xs : List α} {y : β} (h : All2 R xs [y]) : ∃ x, xs = [x] ∧ R x y := by
  cases h with
  | cons a b => cases b; exact ⟨_, rfl, a⟩
/-- lots of gates, no two of which hang on the same input -/
noncomputable def Disj (C : Ck) (X Y : List Int) : Prop := ∀ p ∈ X, ∀ q ∈ Y, ∀ x, Sp C p.natAbs x → ¬ Sp C q.natAbs x
theorem Disj.symm {C : Ck} {X Y : List Int} (h : Disj C X Y) : Disj C Y X := fun p hp q hq x hx hx' => h q hq p hp x hx' hx
/-- what groups gives back -/
noncomputable def Lots (C : Ck) (ps : List Int) (lots : List (List Int)) : Prop := (∀ lot ∈ lots, lot ≠ []) ∧ lots.flatten.Perm ps ∧ lots.Pairwise (Disj C)

noncomputable def OwnG (n : Nat) (C : Ck) (p : Int) (c : Nat) : Prop := Own n (fun ρ => Vl ρ C p) (Sp C p.natAbs) c
noncomputable def sg (n : Nat) (C : Ck) (p : Int) : Nat := sn n (Sp C p.natAbs)
section
variable {n : Nat} {C C' C1 C2 : Ck}
theorem dep_gate (W : WF n C) {p : Int} (h : Vd C p) : Dep (fun ρ => Vl ρ C p) (Sp C p.natAbs) := fun ρ ρ' e => by
  show lt (vl ρ C p.natAbs) p = lt (vl ρ' C p.natAbs) p
  rw [vl_dep W p.natAbs h.2 e]
theorem own_congr {f g : (Nat → Bool) → Bool} {D E : Nat → Prop} {c : Nat} (h : Own n f D c) (hf : ∀ ρ, f ρ = g ρ) (hD : ∀ x, D x ↔ E x) : Own n g E c := by
  rw [show g = f from funext fun ρ => (hf ρ).symm, show E = D from funext fun x => propext (hD x).symm]; exact h
theorem sg_ext (W : WF n C) (e : C <+: C') {p : Int} (h : Vd C p) : sg n C' p = sg n C p := sn_congr (fun x => Sp.ext W e h.2) n
theorem ownG_ext (W : WF n C) (e : C <+: C') {p : Int} {c : Nat} (h : Vd C p) : OwnG n C' p c ↔ OwnG n C p c :=
  ⟨fun x => own_congr x (fun ρ => Vl_ext e h) (fun x => Sp.ext W e h.2), fun x => own_congr x (fun ρ => (Vl_ext e h).symm) fun x => (Sp.ext W e h.2).symm⟩
theorem sn_zero {D : Nat → Prop} (h : ∀ x, ¬ D x) : sn n D = 0 := by
  have := sn_add (D := D) (E := D) (U := D) (fun x => by simp) (fun x d => h x) n
  lia
theorem sp_tru (W : WF n C) (x : Nat) : ¬ Sp C 1 x := Sp.none (by rw [W.tru]; nofun) (fun ps e => by rw [W.tru] at e; cases e)
theorem ownG_one (W : WF n C) : OwnG n C 1 1 := by
  unfold OwnG Own
  rw [show (1 : Int).natAbs = 1 from rfl, sn_zero (sp_tru W), Sm_congr (g := fun _ => true) (fun ρ => Vl_one W ρ), Sm_true]; simp
theorem ownG_mone (W : WF n C) : OwnG n C (-1) 0 := by
  unfold OwnG Own
  rw [Sm_congr (g := fun _ => false) (fun ρ => Vl_mone W ρ), Sm_false]; simp
theorem ownG_neg {p : Int} {c : Nat} (h : Vd C p) (x : OwnG n C p c) : OwnG n C (-p) (2 ^ sg n C p - c) :=
  own_congr (own_not x) (fun ρ => (Vl_neg h).symm) fun y => by rw [Int.natAbs_neg]
theorem sn_one {D : Nat → Prop} {x : Nat} (h : ∀ y, D y ↔ y = x) (h2 : 2 ≤ x) (h3 : x < n + 2) : sn n D = 1 := by
  have := sn_keys (n := n) (D := D) (K := [(x : Int)]) (by (first | exact (List.nodup_cons.mpr ⟨nofun, .nil⟩) | simp)) (fun z => ⟨fun hz => ⟨x, List.mem_singleton.mp hz, (h x).mpr rfl⟩, fun ⟨y, e, hy⟩ => by rw [(h y).mp hy] at e; rw [e]; simp⟩) fun y hy => by rw [(h y).mp hy]; exact ⟨h2, h3⟩
  simpa using this.symm
theorem ownG_inp (W : WF n C) {i : Nat} (h : C[i]? = some .inp) : OwnG n C (i : Int) 1 := by
  have hs : Sp C i i := (Sp.inp h).mpr rfl
  have hr := hs.range W
  unfold OwnG Own
  rw [show ((i : Int)).natAbs = i from rfl, sn_one (fun y => Sp.inp h) hr.1 hr.2, Sm_congr (g := fun ρ => ρ i) (fun ρ => by rw [Vl_nat (by lia), vl_inp h])]
  have := Sm_inp (n := n) hr.1 hr.2
  have e : 2 ^ n = 2 ^ (n - 1) * 2 := by rw [← Nat.pow_succ]; congr 1; lia
  lia
theorem ownG_minp (W : WF n C) {i : Nat} (h : C[i]? = some .inp) : OwnG n C (-(i : Int)) 1 := by
  have hs : Sp C i i := (Sp.inp h).mpr rfl
  have hr := hs.range W
  have := ownG_neg (n := n) (p := (i : Int)) ⟨show 1 ≤ i by lia, (List.getElem?_eq_some_iff.mp h).1⟩ (ownG_inp W h)
  have e : sg n C (i : Int) = 1 := sn_one (fun y => Sp.inp h) hr.1 hr.2
  rw [e] at this; exact this
theorem sg_pos (W : WF n C) {p : Int} (h2 : 2 ≤ p.natAbs) (h : Vd C p) : 1 ≤ sg n C p := by
  obtain ⟨x, hx⟩ := sp_some W _ h2 h.2
  have := hx.range W
  exact sn_pos hx this.1 this.2

/-! ## plans -/
noncomputable def sumOwn (n : Nat) (C : Ck) (g : Nat) : List Int → List Nat → Nat
  | q :: qs, c :: cs => c * 2 ^ (sn n (Sp C g) - 1 - sg n C q) + sumOwn n C g qs cs
  | _, _ => 0
noncomputable def prodL : List Nat → Nat
  | [] => 1
  | c :: cs => c * prodL cs
structure PlanOk (n : Nat) (C : Ck) (g : Nat) (kd : Str) (qs : List Int) : Prop where
  parts : ∀ q ∈ qs, Vd C q ∧ sg n C q + 1 ≤ sn n (Sp C g)
  len : qs.length ≤ 3
  own : (kd = "product" ∧ ∀ cs, All2 (OwnG n C) qs cs → OwnG n C (g : Int) (prodL cs)) ∨ (kd = "sum" ∧ ∀ cs, All2 (OwnG n C) qs cs → OwnG n C (g : Int) (sumOwn n C g qs cs))
theorem All2.imp_mem {α β : Type} {R R' : α → β → Prop} {xs : List α} {ys : List β} (h : ∀ x ∈ xs, ∀ y, R x y → R' x y) (z : All2 R xs ys) : All2 R' xs ys := by
  induction z with
  | nil => exact .nil
  | cons a _ ih => exact .cons (h _ (List.mem_cons_self ..) _ a) (ih fun x hx => h x (List.mem_cons_of_mem _ hx))
theorem sumOwn_ext (W : WF n C) (e : C <+: C') {g : Nat} (hg : g < C.length) : ∀ (qs : List Int) (cs : List Nat), (∀ q ∈ qs, Vd C q) → sumOwn n C' g qs cs = sumOwn n C g qs cs
  | [], _, _ => by (first | rfl | simp [sumOwn])
  | q :: qs, [], _ => by (first | rfl | simp [sumOwn])
  | q :: qs, c :: cs, h => by
    simp only [sumOwn]
    rw [sumOwn_ext W e hg qs cs fun q hq => h q (List.mem_cons_of_mem _ hq), sg_ext W e (h q (List.mem_cons_self ..)), sn_congr (fun x => Sp.ext W e hg) n]
theorem PlanOk.ext (W : WF n C) (e : C <+: C') {g : Nat} (h1 : 1 ≤ g) (hg : g < C.length) {kd : Str} {qs : List Int} (x : PlanOk n C g kd qs) : PlanOk n C' g kd qs := by
  have hvg : Vd C (g : Int) := ⟨h1, hg⟩
  refine ⟨fun q hq => ?_, x.len, ?_⟩
  · obtain ⟨a, b⟩ := x.parts q hq
    refine ⟨a.ext e, ?_⟩
    rw [sg_ext W e a, sn_congr (fun x => Sp.ext W e hg) n]; exact b
  · have back : ∀ {cs}, All2 (OwnG n C') qs cs → All2 (OwnG n C) qs cs := fun h => h.imp_mem fun q hq c hc => (ownG_ext W e (x.parts q hq).1).mp hc
    rcases x.own with ⟨a, b⟩ | ⟨a, b⟩
    · exact .inl ⟨a, fun cs h => (ownG_ext W e hvg).mpr (b cs (back h))⟩
    · refine .inr ⟨a, fun cs h => (ownG_ext W e hvg).mpr ?_⟩
      rw [sumOwn_ext W e hg qs cs fun q hq => (x.parts q hq).1]; exact b cs (back h)
/-- a lot's gate -/
structure LotG (C Cf : Ck) (lot : List Int) (r : Int) : Prop where
  vd : Vd Cf r
  val : ∀ ρ, Vl ρ Cf r = lot.all fun p => Vl ρ C p
  sp : ∀ x, Sp Cf r.natAbs x ↔ ∃ p ∈ lot, Sp C p.natAbs x
theorem LotG.ext (W : WF n C1) (e : C1 <+: C2) {lot : List Int} {r : Int} (h : LotG C C1 lot r) : LotG C C2 lot r :=
  ⟨h.vd.ext e, fun ρ => by rw [Vl_ext e h.vd]; exact h.val ρ, fun x => (Sp.ext W e h.vd.2).trans (h.sp x)⟩
theorem lotG_of (W : WF n C) (W1 : WF n C1) (e : C <+: C1) {g : Nat} {ps lot : List Int} (hg : C[g]? = some (.and ps)) (hl : ∀ p ∈ lot, p ∈ ps) (hne : lot ≠ []) {r : Int} (ha : AllOf C1 lot r C2) : LotG C C2 lot r := by
  have hw := W.at hg
  have hwa := hw.ge
  have hwb := hw.two
  have hwc := hw.three
  have hgl := (List.getElem?_eq_some_iff.mp hg).1
  have hvC : ∀ p ∈ lot, Vd C p := fun p hp => by have := hw.parts p (hl p hp); exact ⟨by lia, by lia⟩
  have hv : ∀ p ∈ lot, Vd C1 p := fun p hp => (hvC p hp).ext e
  have e2 := ha.pre.1
  refine ⟨ha.vd W1 hv, fun ρ => ?_, fun x => ?_⟩
  · rw [ha.val W1 hv, Bool.eq_iff_iff, List.all_eq_true, List.all_eq_true]
    exact ⟨fun z p hp => by rw [← Vl_ext e (hvC p hp)]; exact z p hp, fun z p hp => by rw [Vl_ext e (hvC p hp)]; exact z p hp⟩
  · have up : ∀ p ∈ lot, (Sp C2 p.natAbs x ↔ Sp C p.natAbs x) := fun p hp => Sp.ext W (e.trans e2) (hvC p hp).2
    rcases id ha with ⟨_, _, h⟩ | ⟨_, _, h⟩ | ⟨hr, _, _, _, h⟩ | ⟨qs, i, hm, _, _, _, _, _, rfl, hi, _⟩
    · exfalso
      rcases h with h | ⟨g', h1, h2⟩
      · have := hw.parts _ (hl _ h); simp at this
      · exact hw.nc _ (hl _ h1) (hl _ h2)
    · exfalso
      obtain ⟨p, _, rfl⟩ := List.exists_cons_of_ne_nil hne
      · have h1 := h p (List.mem_cons_self ..)
        have := hw.parts _ (hl p (List.mem_cons_self ..))
        rw [h1] at this; simp at this
    · have all : ∀ p ∈ lot, p = r := fun p hp => (h p hp).resolve_left fun z => by
        have := hw.parts _ (hl p hp); rw [z] at this; simp at this
      constructor
      · intro z; exact ⟨r, hr, (up r hr).mp z⟩
      · rintro ⟨p, hp, z⟩; rw [all p hp] at z; exact (up r hr).mpr z
    · have hi' : C2[((i : Int)).natAbs]? = some (.and qs) := hi
      rw [Sp.and hi']
      constructor
      · rintro ⟨p, hp, z⟩
        have := ((hm p).mp hp).1
        exact ⟨p, this, (up p this).mp z⟩
      · rintro ⟨p, hp, z⟩
        refine ⟨p, (hm p).mpr ⟨hp, fun z => ?_⟩, (up p hp).mpr z⟩
        have := hw.parts _ (hl p hp); rw [z] at this; simp at this
theorem lot_few (W : WF n C) (W1 : WF n C1) (e : C <+: C1) (F : FewAll C1) {g : Nat} {ps lot : List Int} (hg : C[g]? = some (.and ps)) (hl : ∀ p ∈ lot, p ∈ ps) {r : Int} (ha : AllOf C1 lot r C2) : FewAll C2 := by
  have hgl := (List.getElem?_eq_some_iff.mp hg).1
  have hw := W.at hg
  have hwa := hw.ge
  have hwb := hw.two
  have hwc := hw.three
  have hvC : ∀ p ∈ lot, Vd C p := fun p hp => by have := hw.parts p (hl p hp); exact ⟨by lia, by lia⟩
  have hv : ∀ p ∈ lot, Vd C1 p := fun p hp => (hvC p hp).ext e
  have W2 := ha.wf W1 hv
  refine fewAll_new W1 F ha ?_
  have hl1 : g < C1.length := Nat.lt_of_lt_of_le hgl e.length_le
  obtain ⟨fl, f1, f2⟩ := F g hl1
  have hg1 := get_ext e hg
  refine ⟨fl.map fun j => if j = g then r.natAbs else j, by simpa using f1, fun k hk => ?_⟩
  have part : ∀ p ∈ lot, ∀ k, Rc C2 p.natAbs k → k ∈ fl.map fun j => if j = g then r.natAbs else j := fun p hp k hk => by
    have h1 := hk.down W1 ha.pre.1 (hv p hp).2
    have h2 := f2 k (.step hg1 (hl p hp) h1)
    have := (h1.le W1).1
    have := hw.parts p (hl p hp)
    exact List.mem_map.mpr ⟨k, h2, if_neg (by lia)⟩
  have top : r.natAbs ∈ fl.map fun j => if j = g then r.natAbs else j := List.mem_map.mpr ⟨g, f2 g (.refl _), if_pos rfl⟩
  rcases id ha with ⟨rfl, _, _⟩ | ⟨rfl, _, _⟩ | ⟨hr, _, _, _, _⟩ | ⟨qs, i, hm, _, _, _, _, _, rfl, hi, _⟩
  · rw [hk.one W2]; exact top
  · rw [hk.one W2]; exact top
  · exact part r hr k hk
  · rcases hk.cases with rfl | ⟨qs', q, hq, hqm, hk⟩
    · exact top
    · have hi' : C2[((i : Int)).natAbs]? = some (.and qs) := hi
      rw [hi'] at hq; cases hq
      exact part q ((hm q).mp hqm).1 k hk
theorem own_all (W : WF n C) {rs : List Int} {cs : List Nat} (hv : ∀ r ∈ rs, Vd C r) (hp : rs.Pairwise (fun p q => ∀ x, Sp C p.natAbs x → ¬ Sp C q.natAbs x)) (z : All2 (OwnG n C) rs cs) : Own n (fun ρ => rs.all fun r => Vl ρ C r) (fun x => ∃ r ∈ rs, Sp C r.natAbs x) (prodL cs) := by
  induction z with
  | nil =>
    unfold Own
    rw [sn_zero (by simp), Sm_congr (g := fun _ => true) (fun ρ => by (first | rfl | simp)), Sm_true]; simp [prodL]
  | @cons r c rs cs a b ih =>
    have hp := List.pairwise_cons.mp hp
    have ih := ih (fun r hr => hv r (List.mem_cons_of_mem _ hr)) hp.2
    have hdep : Dep (fun ρ => rs.all fun r => Vl ρ C r) (fun x => ∃ r ∈ rs, Sp C r.natAbs x) := fun ρ ρ' e => by
      show rs.all (fun r => Vl ρ C r) = rs.all fun r => Vl ρ' C r
      rw [Bool.eq_iff_iff, List.all_eq_true, List.all_eq_true]
      have key : ∀ r ∈ rs, Vl ρ C r = Vl ρ' C r := fun r hr => dep_gate W (hv r (List.mem_cons_of_mem _ hr)) ρ ρ' fun x hx => e x ⟨r, hr, hx⟩
      exact ⟨fun z r hr => by rw [← key r hr]; exact z r hr, fun z r hr => by rw [key r hr]; exact z r hr⟩
    have := own_and (U := fun x => ∃ q ∈ r :: rs, Sp C q.natAbs x) (dep_gate W (hv r (List.mem_cons_self ..))) hdep (fun x hx => by rintro ⟨q, hq, hx'⟩; exact hp.1 q hq x hx hx') (fun x => by simp) a ih
    exact own_congr this (fun ρ => by (first | rfl | simp)) fun x => Iff.rfl
theorem all2_lots {Cf : Ck} {lots : List (List Int)} {rs : List Int} (h : All2 (fun r lot => LotG C Cf lot r) rs lots) : (∀ r ∈ rs, Vd Cf r) ∧ (∀ ρ, rs.all (fun r => Vl ρ Cf r) = lots.flatten.all fun p => Vl ρ C p) ∧ (∀ x, (∃ r ∈ rs, Sp Cf r.natAbs x) ↔ ∃ p ∈ lots.flatten, Sp C p.natAbs x) := by
  induction h with
  | nil => simp
  | @cons r lot rs lots a b ih =>
    refine ⟨fun r hr => ?_, fun ρ => ?_, fun x => ?_⟩
    · rcases List.mem_cons.mp hr with rfl | hr
      · exact a.vd
      · exact ih.1 r hr
    · rw [List.all_cons, List.flatten_cons, List.all_append, a.val, ih.2.1]
    · simp only [List.mem_cons, List.flatten_cons, List.mem_append]
      constructor
      · rintro ⟨q, rfl | hq, hx⟩
        · obtain ⟨p, hp, z⟩ := (a.sp x).mp hx; exact ⟨p, .inl hp, z⟩
        · obtain ⟨p, hp, z⟩ := (ih.2.2 x).mp ⟨q, hq, hx⟩; exact ⟨p, .inr hp, z⟩
      · rintro ⟨p, hp | hp, hx⟩
        · exact ⟨r, .inl rfl, (a.sp x).mpr ⟨p, hp, hx⟩⟩
        · obtain ⟨q, hq, z⟩ := (ih.2.2 x).mpr ⟨p, hp, hx⟩; exact ⟨q, .inr hq, z⟩
theorem all2_pw {Cf : Ck} {lots : List (List Int)} {rs : List Int} (h : All2 (fun r lot => LotG C Cf lot r) rs lots) : lots.Pairwise (Disj C) → rs.Pairwise (fun p q => ∀ x, Sp Cf p.natAbs x → ¬ Sp Cf q.natAbs x) := by
  induction h with
  | nil => intro _; exact .nil
  | @cons r lot rs lots a b ih =>
    intro hp
    have hp := List.pairwise_cons.mp hp
    refine List.pairwise_cons.mpr ⟨fun q hq x hx hx' => ?_, ih hp.2⟩
    obtain ⟨p, hp1, z⟩ := (a.sp x).mp hx
    obtain ⟨p', hp2, z'⟩ := ((all2_lots b).2.2 x).mp ⟨q, hq, hx'⟩
    obtain ⟨lot', h1, h2⟩ := List.mem_flatten.mp hp2
    exact hp.1 lot' h1 p hp1 p' h2 x z z'
theorem plan_product {Cf : Ck} (W : WF n C) (Wf : WF n Cf) (e : C <+: Cf) {g : Nat} {ps : List Int} (hg : C[g]? = some (.and ps)) {lots : List (List Int)} {rs : List Int} (hL : Lots C ps lots) (h2 : 2 ≤ lots.length) (h3 : lots.length ≤ 3) (h : All2 (fun r lot => LotG C Cf lot r) rs lots) : PlanOk n Cf g "product" rs := by
  obtain ⟨v, va, vs⟩ := all2_lots h
  have pw := all2_pw h hL.2.2
  have hg' := get_ext e hg
  have hw := W.at hg
  have hwa := hw.ge
  have hwb := hw.two
  have hwc := hw.three
  have hsp : ∀ x, Sp Cf g x ↔ ∃ r ∈ rs, Sp Cf r.natAbs x := fun x => by
    rw [vs, Sp.ext W e (List.getElem?_eq_some_iff.mp hg).1, Sp.and hg]
    exact exists_congr fun p => and_congr_left fun _ => (hL.2.1.mem_iff).symm
  refine ⟨fun q hq => ⟨v q hq, ?_⟩, by rw [h.len]; exact h3, .inl ⟨rfl, fun cs hcs => ?_⟩⟩
  · -- another lot has an input of its own
    have other : ∃ r ∈ rs, ∃ x, Sp Cf r.natAbs x ∧ ¬ Sp Cf q.natAbs x := by
      have nonempty : ∀ r ∈ rs, ∃ x, Sp Cf r.natAbs x := by
        clear pw hsp vs va v hq h2 h3
        have key : ∀ {rs lots}, All2 (fun r lot => LotG C Cf lot r) rs lots → (∀ lot ∈ lots, lot ≠ [] ∧ ∀ p ∈ lot, p ∈ ps) → ∀ r ∈ rs, ∃ x, Sp Cf r.natAbs x := by
          intro rs lots h
          induction h with
          | nil => intro _ r hr; cases hr
          | @cons r lot rs lots a b ih =>
            intro hl r' hr'
            rcases List.mem_cons.mp hr' with rfl | hr'
            · obtain ⟨z1, z2⟩ := hl lot (List.mem_cons_self ..)
              obtain ⟨p, _, rfl⟩ := List.exists_cons_of_ne_nil z1
              · have hp := z2 p (List.mem_cons_self ..)
                have hb := hw.parts p hp
                obtain ⟨x, hx⟩ := sp_some W p.natAbs hb.1 (by have := (List.getElem?_eq_some_iff.mp hg).1; lia)
                exact ⟨x, (a.sp x).mpr ⟨p, List.mem_cons_self .., hx⟩⟩
            · exact ih (fun lot hlot => hl lot (List.mem_cons_of_mem _ hlot)) r' hr'
        exact key h fun lot hlot => ⟨hL.1 lot hlot, fun p hp => hL.2.1.mem_iff.mp (List.mem_flatten.mpr ⟨lot, hlot, hp⟩)⟩
      have h2 : 2 ≤ rs.length := by rw [h.len]; exact h2
      have ne := nonempty
      obtain ⟨r0, rt', rfl⟩ := List.exists_cons_of_ne_nil (l := rs) (by intro z; rw [z] at h2; exact absurd h2 (by decide))
      obtain ⟨r1, rt, rfl⟩ := List.exists_cons_of_ne_nil (l := rt') (by intro z; rw [z] at h2; exact absurd h2 (by simp))
      · have p0 := (List.pairwise_cons.mp pw).1
        rcases List.mem_cons.mp hq with rfl | hq
        · obtain ⟨x, hx⟩ := ne r1 (by (first | exact List.mem_cons_of_mem _ (List.mem_cons_self ..) | simp))
          exact ⟨r1, by (first | exact List.mem_cons_of_mem _ (List.mem_cons_self ..) | simp), x, hx, fun z => p0 r1 (by (first | exact List.mem_cons_self .. | simp)) x z hx⟩
        · obtain ⟨x, hx⟩ := ne r0 (by (first | exact List.mem_cons_self .. | simp))
          exact ⟨r0, by (first | exact List.mem_cons_self .. | simp), x, hx, fun z => p0 q hq x hx z⟩
    obtain ⟨r, hr, x, hx, hn⟩ := other
    have hxr := hx.range Wf
    exact sn_lt (fun y hy => (hsp y).mpr ⟨q, hq, hy⟩) ((hsp x).mpr ⟨r, hr, hx⟩) hn hxr.1 hxr.2
  · refine own_congr (own_all Wf v pw hcs) (fun ρ => ?_) fun x => (hsp x).symm
    rw [va, Vl_nat (by (first | exact Nat.lt_of_le_of_lt (Nat.le_add_left ..) (by assumption) | lia)), vl_and Wf hg', Bool.eq_iff_iff, List.all_eq_true, List.all_eq_true]
    have hb : ∀ p ∈ ps, Vl ρ Cf p = Vl ρ C p := fun p hp => Vl_ext e (by have := hw.parts p hp; have := (List.getElem?_eq_some_iff.mp hg).1; exact ⟨by lia, by lia⟩)
    exact ⟨fun z p hp => by rw [hb p hp]; exact z p (hL.2.1.mem_iff.mpr hp), fun z p hp => by rw [← hb p (hL.2.1.mem_iff.mp hp)]; exact z p (hL.2.1.mem_iff.mp hp)⟩
theorem plan_sum {Cf : Ck} (W : WF n C) (Wf : WF n Cf) (e : C <+: Cf) {g x : Nat} {r0 r1 : Int} (h1 : 1 ≤ g) (hg : g < C.length) (hx : Sp C g x) (v0 : Vd Cf r0) (v1 : Vd Cf r1) (a0 : ∀ ρ, Vl ρ Cf r0 = vl (upd ρ x false) C g) (a1 : ∀ ρ, Vl ρ Cf r1 = vl (upd ρ x true) C g)
    (s0 : ∀ y, Sp Cf r0.natAbs y → Sp C g y ∧ y ≠ x) (s1 : ∀ y, Sp Cf r1.natAbs y → Sp C g y ∧ y ≠ x) : PlanOk n Cf g "sum" [r0, r1] := by
  have hxr := hx.range W
  have hsp : ∀ y, Sp Cf g y ↔ Sp C g y := fun y => Sp.ext W e hg
  have l0 : sg n Cf r0 + 1 ≤ sn n (Sp Cf g) := sn_lt (x := x) (fun y hy => (hsp y).mpr (s0 y hy).1) ((hsp x).mpr hx) (fun z => (s0 x z).2 rfl) hxr.1 hxr.2
  have l1 : sg n Cf r1 + 1 ≤ sn n (Sp Cf g) := sn_lt (x := x) (fun y hy => (hsp y).mpr (s1 y hy).1) ((hsp x).mpr hx) (fun z => (s1 x z).2 rfl) hxr.1 hxr.2
  refine ⟨fun q hq => ?_, by simp, .inr ⟨rfl, fun cs h => ?_⟩⟩
  · simp only [List.mem_cons, List.not_mem_nil, or_false] at hq
    rcases hq with rfl | rfl
    · exact ⟨v0, l0⟩
    · exact ⟨v1, l1⟩
  · obtain ⟨c0, c1, rfl, b0, b1⟩ : ∃ c0 c1, cs = [c0, c1] ∧ OwnG n Cf r0 c0 ∧ OwnG n Cf r1 c1 := by
      cases h with
      | cons b0 b => cases b with
        | cons b1 b => cases b; exact ⟨_, _, rfl, b0, b1⟩
    · have := own_sum (f := fun ρ => Vl ρ Cf (g : Int)) (D := Sp Cf g) (x := x) (fun ρ => by rw [a0, Vl_nat h1, vl_ext e hg]) (fun ρ => by rw [a1, Vl_nat h1, vl_ext e hg]) hxr.1 hxr.2 l0 l1 b0 b1
      show Own n _ _ _
      simpa [sumOwn, sg] using this
end
end Mine
end
section
open PySem PySem.W PyProof.Rows
set_option maxRecDepth 100000
set_option linter.unusedVariables false
set_option autoImplicit false
namespace Mine
/-! ## tables: a number whose bit r tells the value in row r -/
noncomputable def tb : Nat → (Nat → Bool) → Nat
  | 0, _ => 0
  | R + 1, g => (g 0).toNat + 2 * tb R (fun r => g (r + 1))
noncomputable def cnt : Nat → (Nat → Bool) → Nat
  | 0, _ => 0
  | R + 1, g => (g 0).toNat + cnt R (fun r => g (r + 1))
theorem tb_congr : ∀ (R : Nat) {f g : Nat → Bool}, (∀ r, r < R → f r = g r) → tb R f = tb R g
  | 0, _, _, _ => rfl
  | R + 1, f, g, h => by unfold tb; rw [h 0 (by (first | exact Nat.succ_pos _ | lia)), tb_congr R fun r hr => h (r + 1) (by (first | exact Nat.lt_succ_of_le (by assumption) | lia))]
theorem cnt_congr : ∀ (R : Nat) {f g : Nat → Bool}, (∀ r, r < R → f r = g r) → cnt R f = cnt R g
  | 0, _, _, _ => rfl
  | R + 1, f, g, h => by unfold cnt; rw [h 0 (by (first | exact Nat.succ_pos _ | lia)), cnt_congr R fun r hr => h (r + 1) (by (first | exact Nat.lt_succ_of_le (by assumption) | lia))]
theorem toNat_le (b : Bool) : b.toNat ≤ 1 := by cases b <;> decide
theorem tb_not : ∀ (R : Nat) (g : Nat → Bool), tb R g + tb R (fun r => !g r) + 1 = 2 ^ R
  | 0, _ => rfl
  | R + 1, g => by
    show (g 0).toNat + 2 * tb R (fun r => g (r + 1)) + ((!g 0).toNat + 2 * tb R (fun r => !g (r + 1))) + 1 = 2 ^ (R + 1)
    have : tb R (fun r => g (r + 1)) + tb R (fun r => !g (r + 1)) + 1 = 2 ^ R := tb_not R fun r => g (r + 1)
    rw [Nat.pow_succ]
    cases g 0 <;> simp <;> lia
theorem tb_bit : ∀ (R : Nat) (g : Nat → Bool) (i : Nat), (tb R g).testBit i = (decide (i < R) && g i)
  | 0, g, i => by simp [tb]
  | R + 1, g, 0 => by
    unfold tb
    rw [Nat.testBit_zero]
    cases g 0 <;> simp <;> lia
  | R + 1, g, i + 1 => by
    unfold tb
    rw [Nat.testBit_succ, show ((g 0).toNat + 2 * tb R fun r => g (r + 1)) / 2 = tb R (fun r => g (r + 1)) by have := toNat_le (g 0); lia, tb_bit R]
    simp
theorem tb_and (R : Nat) (f g : Nat → Bool) : tb R f &&& tb R g = tb R (fun r => f r && g r) := by
  apply Nat.eq_of_testBit_eq; intro i
  rw [Nat.testBit_and, tb_bit, tb_bit, tb_bit]
  cases decide (i < R) <;> cases f i <;> cases g i <;> rfl
theorem tb_or (R : Nat) (f g : Nat → Bool) : tb R f ||| tb R g = tb R (fun r => f r || g r) := by
  apply Nat.eq_of_testBit_eq; intro i
  rw [Nat.testBit_or, tb_bit, tb_bit, tb_bit]
  cases decide (i < R) <;> cases f i <;> cases g i <;> rfl
theorem tb_xor : ∀ (R : Nat) (f g : Nat → Bool), tb R (fun r => f r || g r) = tb R (fun r => f r && g r) + tb R (fun r => f r != g r)
  | 0, _, _ => rfl
  | R + 1, f, g => by
    show (f 0 || g 0).toNat + 2 * tb R (fun r => f (r + 1) || g (r + 1)) = (f 0 && g 0).toNat + 2 * tb R (fun r => f (r + 1) && g (r + 1)) + ((f 0 != g 0).toNat + 2 * tb R (fun r => f (r + 1) != g (r + 1)))
    have : tb R (fun r => f (r + 1) || g (r + 1)) = tb R (fun r => f (r + 1) && g (r + 1)) + tb R (fun r => f (r + 1) != g (r + 1)) := tb_xor R (fun r => f (r + 1)) (fun r => g (r + 1))
    rw [this]
    cases f 0 <;> cases g 0 <;> simp <;> lia
noncomputable def tabI (R : Nat) (g : Nat → Bool) : Int := (tb R g : Int)
theorem bitNot_cast (x : Nat) : Builtin.bitNot (Builtin.bitNot (x : Int)) = (x : Int) := by unfold Builtin.bitNot; lia
theorem tI_and (R : Nat) (f g : Nat → Bool) : Builtin.bitAnd (tabI R f) (tabI R g) = tabI R (fun r => f r && g r) := by
  unfold tabI
  rw [bitAnd_pp (by (first | exact Int.natCast_nonneg _ | lia)) (by (first | exact Int.natCast_nonneg _ | lia)), Int.toNat_natCast, Int.toNat_natCast, tb_and]
theorem tI_or (R : Nat) (f g : Nat → Bool) : Builtin.bitOr (tabI R f) (tabI R g) = tabI R (fun r => f r || g r) := by
  unfold tabI Builtin.bitOr
  rw [bitAnd_nn (by unfold Builtin.bitNot; lia) (by unfold Builtin.bitNot; lia), bitNot_cast (tb R f), bitNot_cast (tb R g), Int.toNat_natCast, Int.toNat_natCast, tb_or, bitNot_cast]
theorem tI_xor (R : Nat) (f g : Nat → Bool) : Builtin.bitXor (tabI R f) (tabI R g) = tabI R (fun r => f r != g r) := by
  unfold Builtin.bitXor
  rw [tI_or, tI_and]
  unfold tabI
  rw [tb_xor]; lia
theorem tI_not (R : Nat) (f : Nat → Bool) : (2 ^ R - 1 : Int) - tabI R f = tabI R (fun r => !f r) := by
  unfold tabI
  have := tb_not R f
  have e : (2 : Int) ^ R = ((2 ^ R : Nat) : Int) := by (first | rfl | simp)
  rw [e]; lia
theorem tI_full (R : Nat) : (2 ^ R - 1 : Int) = tabI R (fun _ => true) := by
  have := tI_not R (fun _ => false)
  have e : tabI R (fun _ => false) = 0 := by
    unfold tabI
    have : ∀ R, tb R (fun _ => false) = 0 := by
      intro R; induction R with
      | zero => rfl
      | succ R ih => unfold tb; rw [ih]; rfl
    rw [this]; rfl
  rw [e] at this
  simpa using this
theorem cnt_add : ∀ (A B : Nat) (g : Nat → Bool), cnt (A + B) g = cnt A g + cnt B (fun r => g (r + A))
  | 0, B, g => by simp [cnt]
  | A + 1, B, g => by
    rw [show A + 1 + B = (A + B) + 1 by lia]
    show (g 0).toNat + cnt (A + B) (fun r => g (r + 1)) = (g 0).toNat + cnt A (fun r => g (r + 1)) + cnt B (fun r => g (r + (A + 1)))
    rw [cnt_add A B]
    rw [cnt_congr B (g := fun r => g (r + (A + 1))) fun r _ => by rw [show r + A + 1 = r + (A + 1) by (first | rfl | lia)]]
    lia
/-- the row's values of the inputs 2, 3, .. -/
noncomputable def rowOf (r : Nat) : Nat → Bool := fun x => if x < 2 then false else r.testBit (x - 2)
theorem cnt_Sm : ∀ (n : Nat) (f : (Nat → Bool) → Bool), cnt (2 ^ n) (fun r => f (rowOf r)) = Sm n f
  | 0, f => by
    show (f (rowOf 0)).toNat + 0 = (f fun _ => false).toNat
    rw [show rowOf 0 = fun _ => false from funext fun x => by unfold rowOf; split <;> simp]; rfl
  | n + 1, f => by
    rw [Nat.pow_succ, Nat.mul_comm, Nat.two_mul, cnt_add]
    show _ = Sm n (fun ρ => f (upd ρ (n + 2) false)) + Sm n (fun ρ => f (upd ρ (n + 2) true))
    rw [← cnt_Sm n, ← cnt_Sm n]
    congr 1
    · refine cnt_congr _ fun r hr => ?_
      congr 1
      funext x
      unfold upd rowOf
      by_cases h : x = n + 2
      · subst h; rw [if_pos rfl, if_neg (by lia)]
        exact Nat.testBit_lt_two_pow (by (first | exact hr | simpa using hr))
      · rw [if_neg h]
    · refine cnt_congr _ fun r hr => ?_
      congr 1
      funext x
      unfold upd rowOf
      by_cases h : x = n + 2
      · subst h; rw [if_pos rfl, if_neg (by lia), show n + 2 - 2 = n by (first | rfl | lia), Nat.add_comm, Nat.testBit_two_pow_add_eq, Nat.testBit_lt_two_pow hr]; rfl
      · rw [if_neg h]
        by_cases h2 : x < 2
        · rw [if_pos h2, if_pos h2]
        · rw [if_neg h2, if_neg h2]
          by_cases h3 : x - 2 < n
          · rw [Nat.add_comm, Nat.testBit_two_pow_add_gt h3]
          · rw [Nat.testBit_lt_two_pow (x := r + 2 ^ n) (Nat.lt_of_lt_of_le (show r + 2 ^ n < 2 ^ (n + 1) by rw [Nat.pow_succ]; lia) (Nat.pow_le_pow_right (by decide) (Nat.lt_of_le_of_ne (Nat.not_lt.mp h3) fun e => h ((Nat.sub_eq_iff_eq_add (Nat.not_lt.mp h2)).mp e.symm)))), Nat.testBit_lt_two_pow (x := r) (Nat.lt_of_lt_of_le hr (Nat.pow_le_pow_right (by decide) (by (first | exact Nat.not_lt.mp (by assumption) | lia))))]
/-- how many ones -/
noncomputable def onesF : Nat → Nat → Nat
  | 0, _ => 0
  | k + 1, t => t % 2 + onesF k (t / 2)
theorem onesF_more : ∀ (k t : Nat), t ≤ k → onesF (k + 1) t = onesF k t
  | 0, t, h => by obtain rfl : t = 0 := by lia
                  rfl
  | k + 1, t, h => by
    show t % 2 + onesF (k + 1) (t / 2) = t % 2 + onesF k (t / 2)
    rw [onesF_more k (t / 2) (by lia)]
theorem onesF_ge : ∀ (k t : Nat), t ≤ k → onesF k t = onesF t t
  | 0, t, h => by obtain rfl : t = 0 := by lia
                  rfl
  | k + 1, t, h => by
    by_cases e : t = k + 1
    · rw [e]
    · rw [onesF_more k t (by lia), onesF_ge k t (by lia)]
noncomputable def ones (t : Nat) : Nat := onesF t t
theorem ones_zero : ones 0 = 0 := rfl
theorem ones_step {t : Nat} (h : 0 < t) : ones t = t % 2 + ones (t / 2) := by
  obtain ⟨k, rfl⟩ : ∃ k, t = k + 1 := ⟨t - 1, by (first | exact (Nat.sub_add_cancel (by assumption)).symm | lia)⟩
  show (k + 1) % 2 + onesF k ((k + 1) / 2) = _
  rw [onesF_ge k ((k + 1) / 2) (by lia)]; rfl
theorem ones_tb : ∀ (R : Nat) (g : Nat → Bool), ones (tb R g) = cnt R g
  | 0, _ => rfl
  | R + 1, g => by
    have ih := ones_tb R fun r => g (r + 1)
    have hb := toNat_le (g 0)
    have hc : ones (tb (R + 1) g) = tb (R + 1) g % 2 + ones (tb (R + 1) g / 2) := by
      by_cases h : tb (R + 1) g = 0
      · rw [h]; rfl
      · exact ones_step (by (first | exact Nat.pos_of_ne_zero (by assumption) | lia))
    rw [hc]
    unfold tb cnt
    rw [show ((g 0).toNat + 2 * tb R fun r => g (r + 1)) / 2 = tb R (fun r => g (r + 1)) by lia, ih]
    lia
/-- the sum of the powers over the rows where g holds -/
theorem tb_top : ∀ (R : Nat) (g : Nat → Bool), tb (R + 1) g = tb R g + (if g R then 2 ^ R else 0)
  | 0, g => by unfold tb tb; cases g 0 <;> rfl
  | R + 1, g => by
    have := tb_top R fun r => g (r + 1)
    rw [show tb (R + 1 + 1) g = (g 0).toNat + 2 * tb (R + 1) (fun r => g (r + 1)) from rfl, this, show tb (R + 1) g = (g 0).toNat + 2 * tb R (fun r => g (r + 1)) from rfl, Nat.pow_succ]
    split <;> (first | rfl | lia)
end Mine
end
section
open PySem PySem.W PyProof.Rows
set_option maxRecDepth 100000
set_option linter.unusedVariables false
namespace Mine
noncomputable section
noncomputable def rd_k_init_p1 (T : Tabs) (H6 : Hp) (a_self : V) (v5 : V) (Q : V → Hp → Prop) : Prop :=
sAttr T H6 a_self "known" v5 fun H7 =>
newDict H7 fun v8 H9 =>
sAttr T H9 a_self "plans" v8 fun H10 =>
newDict H10 fun v11 H12 =>
sAttr T H12 a_self "supports" v11 fun H13 =>
Q .none H13
noncomputable def rd_k_init (T : Tabs) (cl : CallOp) (a_self a_circuit a_inputs : V) (H : Hp) (Q : V → Hp → Prop) : Prop :=
sAttr T H a_self "circuit" a_circuit fun H1 =>
typV "tuple" [a_inputs] H1 fun v2 H3 =>
sAttr T H3 a_self "inputs" v2 fun H4 =>
newDict H4 fun v5 H6 =>
rd_k_init_p1 T H6 a_self v5 Q
theorem rd_k_init_eq (P : Params) (a : Addr) (l : List Int) (d : Nat) (a_self a_circuit a_inputs : V) (H : Hp) (Q : V → Hp → Prop) : callA (TT P a l) (d + 1) 35 [a_self, a_circuit, a_inputs] H Q = rd_k_init (TT P a l) (callA (TT P a l) d) a_self a_circuit a_inputs H Q := by kernel_rfl
noncomputable def k_below_sc0 : Scope := compSc (kidE (exprS (stAt (blockS (stAt (blockS (stAt (blockS (stAt (fbody 1) 1) 0) 1) 0) 1) 0) 0) 0) 1)
noncomputable def rd_k_below_p1 (H51 : Hp) (v50 : V) (cl : CallOp) (mt45 : Mth) (v44 : V) (kn41 : Loc → Hp → Prop) (v25 : V) (m14 : Loc) : Prop :=
overV false H51 v50 fun xs52 ok53 => xs52.length < lim ∧
cmpL (fun v54 H55 qo56 =>
bltV "abs" [v54] H55 fun v61 H62 =>
qo56 (some v61) H62) ok53 xs52 [] H51 fun ys57 H58 =>
newO H58 (.list ys57) fun v59 H60 =>
methV cl true mt45 v44 [v59] H60 fun v63 H64 =>
drp v63 (kn41 (("here", v25) :: m14) H64)
noncomputable def rd_k_below_p2 (T : Tabs) (H39 : Hp) (v44 : V) (m14 : Loc) (cl : CallOp) (v25 : V) (kn41 : Loc → Hp → Prop) : Prop :=
onO (methOf T H39 v44 "extend") fun mt45 =>
onO (lk "self" m14) fun v46 =>
gAttr T H39 v46 "circuit" fun v47 H48 =>
onO (methOf T H48 v47 "parts") fun mt49 =>
methV cl true mt49 v47 [v25] H48 fun v50 H51 =>
rd_k_below_p1 H51 v50 cl mt45 v44 kn41 v25 m14
noncomputable def rd_k_below_p3 (v38 : V) (H39 : Hp) (m14 : Loc) (T : Tabs) (cl : CallOp) (v25 : V) (kn29 : Loc → Hp → Prop) : Prop :=
cmpV .Eq v38 (.str "and") H39 fun c40 =>
brQ c40 (fun kn41 : Loc → Hp → Prop =>
onO (lk "stack" m14) fun v44 =>
rd_k_below_p2 T H39 v44 m14 cl v25 kn41) (fun kn41 : Loc → Hp → Prop =>
kn41 (("here", v25) :: m14) H39) fun m42 H43 =>
kn29 m42 H43
noncomputable def rd_k_below_p4 (H26 : Hp) (v32 : V) (v25 : V) (m14 : Loc) (T : Tabs) (cl : CallOp) (kn29 : Loc → Hp → Prop) : Prop :=
sSub H26 v32 v25 (.bool true) fun H33 =>
onO (lk "self" m14) fun v34 =>
gAttr T H33 v34 "circuit" fun v35 H36 =>
onO (methOf T H36 v35 "kind") fun mt37 =>
methV cl true mt37 v35 [v25] H36 fun v38 H39 =>
rd_k_below_p3 v38 H39 m14 T cl v25 kn29
noncomputable def rd_k_below_p5 (v25 : V) (v27 : V) (H26 : Hp) (m14 : Loc) (T : Tabs) (cl : CallOp) (k16 : Loc → Hp → Prop) : Prop :=
cmpV .NotIn v25 v27 H26 fun c28 =>
brQ c28 (fun kn29 : Loc → Hp → Prop =>
onO (lk "found" m14) fun v32 =>
rd_k_below_p4 H26 v32 v25 m14 T cl kn29) (fun kn29 : Loc → Hp → Prop =>
kn29 (("here", v25) :: m14) H26) fun m30 H31 =>
k16 m30 H31
noncomputable def rd_k_below_p6 (T : Tabs) (cl : CallOp) (m9 : Loc) (H8 : Hp) (Q : V → Hp → Prop) : Prop :=
∃ n10, whl (fun m11 H12 qt13 =>
onO (lk "stack" m11) fun v19 =>
bltV "len" [v19] H12 fun v20 H21 =>
cmpV .Gt v20 (.int 0) H21 fun c22 =>
qt13 c22 H21) (fun m14 H15 k16 =>
onO (lk "stack" m14) fun v23 =>
onO (methOf T H15 v23 "pop") fun mt24 =>
methV cl true mt24 v23 [] H15 fun v25 H26 =>
onO (lk "found" m14) fun v27 =>
rd_k_below_p5 v25 v27 H26 m14 T cl k16) n10 m9 H8 fun m17 H18 =>
onO (lk "found" m17) fun v65 =>
bltV "sorted" [v65] H18 fun v66 H67 =>
Q v66 H67
noncomputable def rd_k_below (T : Tabs) (cl : CallOp) (a_self a_gate : V) (H : Hp) (Q : V → Hp → Prop) : Prop :=
newDict H fun v1 H2 =>
bltV "abs" [a_gate] H2 fun v3 H4 =>
newO H4 (.list [v3]) fun v5 H6 =>
newO H6 (.tuple [v1, v5]) fun v7 H8 =>
bindN H8 ["found", "stack"] v7 (("gate", a_gate) :: (("self", a_self) :: [])) fun m9 =>
rd_k_below_p6 T cl m9 H8 Q
theorem rd_k_below_eq (P : Params) (a : Addr) (l : List Int) (d : Nat) (a_self a_gate : V) (H : Hp) (Q : V → Hp → Prop) : callA (TT P a l) (d + 1) 40 [a_self, a_gate] H Q = rd_k_below (TT P a l) (callA (TT P a l) d) a_self a_gate H Q := by kernel_rfl
noncomputable def rd_k_support_p1 (T : Tabs) (H22 : Hp) (v27 : V) (cl : CallOp) (v14 : V) (m15 : Loc) (kn24 : Loc → Hp → Prop) : Prop :=
onO (methOf T H22 v27 "gathered") fun mt28 =>
methV cl true mt28 v27 [v14] H22 fun v29 H30 =>
onO (lk "self" m15) fun v31 =>
gAttr T H30 v31 "supports" fun v32 H33 =>
sSub H33 v32 v14 v29 fun H34 =>
kn24 (("here", v14) :: m15) H34
noncomputable def rd_k_support_p2 (v14 : V) (v21 : V) (H22 : Hp) (m15 : Loc) (T : Tabs) (cl : CallOp) (k17 : Loc → Hp → Prop) : Prop :=
cmpV .NotIn v14 v21 H22 fun c23 =>
brQ c23 (fun kn24 : Loc → Hp → Prop =>
onO (lk "self" m15) fun v27 =>
rd_k_support_p1 T H22 v27 cl v14 m15 kn24) (fun kn24 : Loc → Hp → Prop =>
kn24 (("here", v14) :: m15) H22) fun m25 H26 =>
k17 m25 H26
noncomputable def rd_k_support_p3 (H11 : Hp) (v10 : V) (T : Tabs) (cl : CallOp) (a_gate : V) (a_self : V) (kn6 : Loc → Hp → Prop) : Prop :=
overV false H11 v10 fun xs12 ok13 =>
forL (fun v14 m15 H16 k17 =>
onO (lk "self" m15) fun v20 =>
gAttr T H16 v20 "supports" fun v21 H22 =>
rd_k_support_p2 v14 v21 H22 m15 T cl k17) ok13 xs12 (("gate", a_gate) :: (("self", a_self) :: [])) H11 fun m18 H19 =>
kn6 m18 H19
noncomputable def rd_k_support_p4 (m7 : Loc) (T : Tabs) (H8 : Hp) (Q : V → Hp → Prop) : Prop :=
onO (lk "self" m7) fun v35 =>
gAttr T H8 v35 "supports" fun v36 H37 =>
onO (lk "gate" m7) fun v38 =>
bltV "abs" [v38] H37 fun v39 H40 =>
gSub H40 v36 v39 fun v41 H42 =>
Q v41 H42
noncomputable def rd_k_support_p5 (c5 : Bool) (T : Tabs) (H4 : Hp) (a_self : V) (cl : CallOp) (a_gate : V) (Q : V → Hp → Prop) : Prop :=
brQ c5 (fun kn6 : Loc → Hp → Prop =>
onO (methOf T H4 a_self "below") fun mt9 =>
methV cl true mt9 a_self [a_gate] H4 fun v10 H11 =>
rd_k_support_p3 H11 v10 T cl a_gate a_self kn6) (fun kn6 : Loc → Hp → Prop =>
kn6 (("gate", a_gate) :: (("self", a_self) :: [])) H4) fun m7 H8 =>
rd_k_support_p4 m7 T H8 Q
noncomputable def rd_k_support (T : Tabs) (cl : CallOp) (a_self a_gate : V) (H : Hp) (Q : V → Hp → Prop) : Prop :=
bltV "abs" [a_gate] H fun v1 H2 =>
gAttr T H2 a_self "supports" fun v3 H4 =>
cmpV .NotIn v1 v3 H4 fun c5 =>
rd_k_support_p5 c5 T H4 a_self cl a_gate Q
theorem rd_k_support_eq (P : Params) (a : Addr) (l : List Int) (d : Nat) (a_self a_gate : V) (H : Hp) (Q : V → Hp → Prop) : callA (TT P a l) (d + 1) 47 [a_self, a_gate] H Q = rd_k_support (TT P a l) (callA (TT P a l) d) a_self a_gate H Q := by kernel_rfl
noncomputable def rd_k_gathered_p1 (T : Tabs) (H35 : Hp) (v39 : V) (m34 : Loc) (v33 : V) (cl : CallOp) (k36 : Loc → Hp → Prop) : Prop :=
onO (methOf T H35 v39 "update") fun mt40 =>
onO (lk "self" m34) fun v41 =>
gAttr T H35 v41 "supports" fun v42 H43 =>
bltV "abs" [v33] H43 fun v44 H45 =>
gSub H45 v42 v44 fun v46 H47 =>
methV cl true mt40 v39 [v46] H47 fun v48 H49 =>
drp v48 (k36 (("part", v33) :: m34) H49)
noncomputable def rd_k_gathered_p2 (cl : CallOp) (mt27 : Mth) (v25 : V) (v28 : V) (H26 : Hp) (T : Tabs) (m10 : Loc) (kn21 : Loc → Hp → Prop) : Prop :=
methV cl true mt27 v25 [v28] H26 fun v29 H30 =>
overV false H30 v29 fun xs31 ok32 =>
forL (fun v33 m34 H35 k36 =>
onO (lk "found" m34) fun v39 =>
rd_k_gathered_p1 T H35 v39 m34 v33 cl k36) ok32 xs31 m10 H30 fun m37 H38 =>
kn21 m37 H38
noncomputable def rd_k_gathered_p3 (c20 : Bool) (m10 : Loc) (T : Tabs) (H9 : Hp) (cl : CallOp) (kn13 : Loc → Hp → Prop) : Prop :=
brQ c20 (fun kn21 : Loc → Hp → Prop =>
onO (lk "self" m10) fun v24 =>
gAttr T H9 v24 "circuit" fun v25 H26 =>
onO (methOf T H26 v25 "parts") fun mt27 =>
onO (lk "here" m10) fun v28 =>
rd_k_gathered_p2 cl mt27 v25 v28 H26 T m10 kn21) (fun kn21 : Loc → Hp → Prop =>
kn21 m10 H9) fun m22 H23 =>
kn13 m22 H23
noncomputable def rd_k_gathered_p4 (c12 : Bool) (m10 : Loc) (H9 : Hp) (T : Tabs) (cl : CallOp) (Q : V → Hp → Prop) : Prop :=
brQ c12 (fun kn13 : Loc → Hp → Prop =>
onO (lk "found" m10) fun v16 =>
onO (lk "here" m10) fun v17 =>
sSub H9 v16 v17 (.bool true) fun H18 =>
kn13 m10 H18) (fun kn13 : Loc → Hp → Prop =>
onO (lk "kind" m10) fun v19 =>
cmpV .Eq v19 (.str "and") H9 fun c20 =>
rd_k_gathered_p3 c20 m10 T H9 cl kn13) fun m14 H15 =>
onO (lk "found" m14) fun v50 =>
Q v50 H15
noncomputable def rd_k_gathered_p5 (H5 : Hp) (v4 : V) (a_here : V) (a_self : V) (T : Tabs) (cl : CallOp) (Q : V → Hp → Prop) : Prop :=
newDict H5 fun v6 H7 =>
newO H7 (.tuple [v4, v6]) fun v8 H9 =>
bindN H9 ["kind", "found"] v8 (("here", a_here) :: (("self", a_self) :: [])) fun m10 =>
onO (lk "kind" m10) fun v11 =>
cmpV .Eq v11 (.str "input") H9 fun c12 =>
rd_k_gathered_p4 c12 m10 H9 T cl Q
noncomputable def rd_k_gathered (T : Tabs) (cl : CallOp) (a_self a_here : V) (H : Hp) (Q : V → Hp → Prop) : Prop :=
gAttr T H a_self "circuit" fun v1 H2 =>
onO (methOf T H2 v1 "kind") fun mt3 =>
methV cl true mt3 v1 [a_here] H2 fun v4 H5 =>
rd_k_gathered_p5 H5 v4 a_here a_self T cl Q
theorem rd_k_gathered_eq (P : Params) (a : Addr) (l : List Int) (d : Nat) (a_self a_here : V) (H : Hp) (Q : V → Hp → Prop) : callA (TT P a l) (d + 1) 54 [a_self, a_here] H Q = rd_k_gathered (TT P a l) (callA (TT P a l) d) a_self a_here H Q := by kernel_rfl
noncomputable def rd_k_turned_p1 (a_gate : V) (H7 : Hp) (v6 : V) (Q : V → Hp → Prop) : Prop :=
cmpV .Gt a_gate (.int 0) H7 fun c8 =>
brQ c8 (fun qv11 : V → Hp → Prop =>
qv11 v6 H7) (fun qv11 : V → Hp → Prop =>
onI v6 fun i12 =>
qv11 (.int (-i12)) H7) fun v9 H10 =>
Q v9 H10
noncomputable def rd_k_turned (T : Tabs) (cl : CallOp) (a_self a_gate a_table : V) (H : Hp) (Q : V → Hp → Prop) : Prop :=
onO (methOf T H a_table "get") fun mt1 =>
bltV "abs" [a_gate] H fun v2 H3 =>
bltV "abs" [a_gate] H3 fun v4 H5 =>
methV cl true mt1 a_table [v2, v4] H5 fun v6 H7 =>
rd_k_turned_p1 a_gate H7 v6 Q
theorem rd_k_turned_eq (P : Params) (a : Addr) (l : List Int) (d : Nat) (a_self a_gate a_table : V) (H : Hp) (Q : V → Hp → Prop) : callA (TT P a l) (d + 1) 61 [a_self, a_gate, a_table] H Q = rd_k_turned (TT P a l) (callA (TT P a l) d) a_self a_gate a_table H Q := by kernel_rfl
noncomputable def k_settled_sc0 : Scope := compSc (kidE (exprS (stAt (blockS (stAt (blockS (stAt (fbody 5) 1) 0) 0) 0) 0) 0) 1)
theorem k_settled_sc0_table (m : Loc) : lk "table" (freeOf k_settled_sc0 m) = lk "table" m := freeOf_look (by kernel_rfl) m
theorem k_settled_sc0_self (m : Loc) : lk "self" (freeOf k_settled_sc0 m) = lk "self" m := freeOf_look (by kernel_rfl) m
noncomputable def rd_k_settled_p1 (H38 : Hp) (v37 : V) (v9 : V) (m10 : Loc) (T : Tabs) (cl : CallOp) (mt32 : Mth) (v30 : V) (kn26 : Loc → Hp → Prop) : Prop :=
overV false H38 v37 fun xs39 ok40 => xs39.length < lim ∧
cmpL (fun v41 H42 qo43 =>
onO (lk "self" (freeOf k_settled_sc0 (("here", v9) :: m10))) fun v48 =>
onO (methOf T H42 v48 "turned") fun mt49 =>
onO (lk "table" (freeOf k_settled_sc0 (("here", v9) :: m10))) fun v50 =>
methV cl true mt49 v48 [v41, v50] H42 fun v51 H52 =>
qo43 (some v51) H52) ok40 xs39 [] H38 fun ys44 H45 =>
newO H45 (.list ys44) fun v46 H47 =>
methV cl true mt32 v30 [v46] H47 fun v53 H54 =>
onO (lk "table" m10) fun v55 =>
sSub H54 v55 v9 v53 fun H56 =>
kn26 (("here", v9) :: m10) H56
noncomputable def rd_k_settled_p2 (T : Tabs) (H31 : Hp) (v30 : V) (m10 : Loc) (cl : CallOp) (v9 : V) (kn26 : Loc → Hp → Prop) : Prop :=
onO (methOf T H31 v30 "all_of") fun mt32 =>
onO (lk "self" m10) fun v33 =>
gAttr T H31 v33 "circuit" fun v34 H35 =>
onO (methOf T H35 v34 "parts") fun mt36 =>
methV cl true mt36 v34 [v9] H35 fun v37 H38 =>
rd_k_settled_p1 H38 v37 v9 m10 T cl mt32 v30 kn26
noncomputable def rd_k_settled_p3 (c17 : Bool) (m10 : Loc) (T : Tabs) (H18 : Hp) (cl : CallOp) (v9 : V) (k12 : Loc → Hp → Prop) : Prop :=
brQ c17 (fun kn26 : Loc → Hp → Prop =>
onO (lk "self" m10) fun v29 =>
gAttr T H18 v29 "circuit" fun v30 H31 =>
rd_k_settled_p2 T H31 v30 m10 cl v9 kn26) (fun kn26 : Loc → Hp → Prop =>
kn26 (("here", v9) :: m10) H18) fun m27 H28 =>
k12 m27 H28
noncomputable def rd_k_settled_p4 (c16 : Bool) (m10 : Loc) (T : Tabs) (H11 : Hp) (cl : CallOp) (v9 : V) (k12 : Loc → Hp → Prop) : Prop :=
brQ c16 (fun qb19 : Bool → Hp → Prop =>
onO (lk "x" m10) fun v20 =>
onO (lk "self" m10) fun v21 =>
onO (methOf T H11 v21 "support") fun mt22 =>
methV cl true mt22 v21 [v9] H11 fun v23 H24 =>
cmpV .In v20 v23 H24 fun c25 =>
qb19 c25 H24) (fun qb19 : Bool → Hp → Prop => qb19 false H11) fun c17 H18 =>
rd_k_settled_p3 c17 m10 T H18 cl v9 k12
noncomputable def rd_k_settled_p5 (H6 : Hp) (v5 : V) (T : Tabs) (cl : CallOp) (v1 : V) (a_value : V) (a_x : V) (a_gate : V) (a_self : V) (Q : V → Hp → Prop) : Prop :=
overV false H6 v5 fun xs7 ok8 =>
forL (fun v9 m10 H11 k12 =>
onO (lk "x" m10) fun v15 =>
cmpV .NotEq v9 v15 H11 fun c16 =>
rd_k_settled_p4 c16 m10 T H11 cl v9 k12) ok8 xs7 (("table", v1) :: (("value", a_value) :: (("x", a_x) :: (("gate", a_gate) :: (("self", a_self) :: []))))) H6 fun m13 H14 =>
onO (lk "table" m13) fun v57 =>
onO (lk "gate" m13) fun v58 =>
gSub H14 v57 v58 fun v59 H60 =>
Q v59 H60
noncomputable def rd_k_settled (T : Tabs) (cl : CallOp) (a_self a_gate a_x a_value : V) (H : Hp) (Q : V → Hp → Prop) : Prop :=
onO (pairsI? [(a_x, a_value)]) fun l3 =>
newO H (.dictI (putAll [] l3)) fun v1 H2 =>
onO (methOf T H2 a_self "below") fun mt4 =>
methV cl true mt4 a_self [a_gate] H2 fun v5 H6 =>
rd_k_settled_p5 H6 v5 T cl v1 a_value a_x a_gate a_self Q
theorem rd_k_settled_eq (P : Params) (a : Addr) (l : List Int) (d : Nat) (a_self a_gate a_x a_value : V) (H : Hp) (Q : V → Hp → Prop) : callA (TT P a l) (d + 1) 66 [a_self, a_gate, a_x, a_value] H Q = rd_k_settled (TT P a l) (callA (TT P a l) d) a_self a_gate a_x a_value H Q := by kernel_rfl
noncomputable def k_groups_sc0 : Scope := compSc (kidE (kidE (exprS (stAt (blockS (stAt (blockS (stAt (fbody 6) 1) 0) 2) 0) 0) 0) 0) 1)
theorem k_groups_sc0_inner (m : Loc) : lk "inner" (freeOf k_groups_sc0 m) = lk "inner" m := freeOf_look (by kernel_rfl) m
noncomputable def k_groups_sc1 : Scope := compSc (exprS (stAt (fbody 6) 2) 0)
noncomputable def rd_k_groups_p1 (m32 : Loc) (u38 : V) (H54 : Hp) (T : Tabs) (cl : CallOp) (u40 : V) (kn56 : Loc → Hp → Prop) : Prop :=
onO (lk "lot" m32) fun v59 =>
binV .Add u38 v59 H54 fun v60 H61 =>
onO (lk "inner" m32) fun v62 =>
onO (methOf T H61 v62 "update") fun mt63 =>
methV cl true mt63 v62 [u40] H61 fun v64 H65 =>
drp v64 (kn56 (("lot", v60) :: (("late", u40) :: (("other", u38) :: m32))) H65)
noncomputable def rd_k_groups_p2 (c55 : Bool) (m32 : Loc) (u38 : V) (H54 : Hp) (T : Tabs) (cl : CallOp) (u40 : V) (k34 : Loc → Hp → Prop) : Prop :=
brQ c55 (fun kn56 : Loc → Hp → Prop =>
rd_k_groups_p1 m32 u38 H54 T cl u40 kn56) (fun kn56 : Loc → Hp → Prop =>
onO (lk "others" m32) fun v66 =>
onO (methOf T H54 v66 "append") fun mt67 =>
newO H54 (.tuple [u38, u40]) fun v68 H69 =>
methV cl true mt67 v66 [v68] H69 fun v70 H71 =>
drp v70 (kn56 (("late", u40) :: (("other", u38) :: m32)) H71)) fun m57 H58 =>
k34 m57 H58
noncomputable def rd_k_groups_p3 (H33 : Hp) (u40 : V) (u38 : V) (m32 : Loc) (T : Tabs) (cl : CallOp) (k34 : Loc → Hp → Prop) : Prop :=
overV true H33 u40 fun xs42 ok43 => xs42.length < lim ∧
cmpL (fun v44 H45 qo46 =>
onO (lk "inner" (freeOf k_groups_sc0 (("late", u40) :: (("other", u38) :: m32)))) fun v51 =>
cmpV .In v44 v51 H45 fun c52 =>
brB c52 (qo46 (some v44) H45) (qo46 .none H45)) ok43 xs42 [] H33 fun ys47 H48 =>
newO H48 (.list ys47) fun v49 H50 =>
bltV "len" [v49] H50 fun v53 H54 =>
cmpV .Gt v53 (.int 0) H54 fun c55 =>
rd_k_groups_p2 c55 m32 u38 H54 T cl u40 k34
noncomputable def rd_k_groups_p4 (m35 : Loc) (H36 : Hp) (v72 : V) (k8 : Loc → Hp → Prop) : Prop :=
onO (lk "lot" m35) fun v73 =>
onO (lk "inner" m35) fun v74 =>
newO H36 (.tuple [v73, v74]) fun v75 H76 =>
newO H76 (.list [v75]) fun v77 H78 =>
binV .Add v72 v77 H78 fun v79 H80 =>
k8 (("lots", v79) :: m35) H80
noncomputable def rd_k_groups_p5 (H27 : Hp) (v28 : V) (T : Tabs) (cl : CallOp) (v26 : V) (u24 : V) (u22 : V) (v5 : V) (m6 : Loc) (k8 : Loc → Hp → Prop) : Prop :=
overV false H27 v28 fun xs29 ok30 =>
forL (fun v31 m32 H33 k34 =>
unp H33 v31 2 fun us37 =>
cas1 us37 fun u38 us39 =>
cas1 us39 fun u40 us41 =>
cas0 us41 (rd_k_groups_p3 H33 u40 u38 m32 T cl k34)) ok30 xs29 (("others", v26) :: (("inner", u24) :: (("lot", u22) :: (("part", v5) :: m6)))) H27 fun m35 H36 =>
onO (lk "others" m35) fun v72 =>
rd_k_groups_p4 m35 H36 v72 k8
noncomputable def rd_k_groups_p6 (H20 : Hp) (v19 : V) (m6 : Loc) (T : Tabs) (cl : CallOp) (v5 : V) (k8 : Loc → Hp → Prop) : Prop :=
unp H20 v19 2 fun us21 =>
cas1 us21 fun u22 us23 =>
cas1 us23 fun u24 us25 =>
cas0 us25 (newO H20 (.list []) fun v26 H27 =>
onO (lk "lots" m6) fun v28 =>
rd_k_groups_p5 H27 v28 T cl v26 u24 u22 v5 m6 k8)
noncomputable def rd_k_groups_p7 (m6 : Loc) (T : Tabs) (H12 : Hp) (cl : CallOp) (v5 : V) (v11 : V) (k8 : Loc → Hp → Prop) : Prop :=
onO (lk "self" m6) fun v13 =>
onO (methOf T H12 v13 "support") fun mt14 =>
methV cl true mt14 v13 [v5] H12 fun v15 H16 =>
typV "dict" [v15] H16 fun v17 H18 =>
newO H18 (.tuple [v11, v17]) fun v19 H20 =>
rd_k_groups_p6 H20 v19 m6 T cl v5 k8
noncomputable def rd_k_groups_p8 (H10 : Hp) (v81 : V) (m9 : Loc) (Q : V → Hp → Prop) : Prop :=
overV true H10 v81 fun xs82 ok83 => xs82.length < lim ∧
cmpL (fun v84 H85 qo86 =>
bindN H85 ["lot", "inner"] v84 (freeOf k_groups_sc1 m9) fun m91 =>
onO (lk "lot" m91) fun v92 =>
qo86 (some v92) H85) ok83 xs82 [] H10 fun ys87 H88 =>
newO H88 (.list ys87) fun v89 H90 =>
Q v89 H90
noncomputable def rd_k_groups_p9 (H2 : Hp) (a_parts : V) (T : Tabs) (cl : CallOp) (v1 : V) (a_self : V) (Q : V → Hp → Prop) : Prop :=
overV false H2 a_parts fun xs3 ok4 =>
forL (fun v5 m6 H7 k8 =>
newO H7 (.list [v5]) fun v11 H12 =>
rd_k_groups_p7 m6 T H12 cl v5 v11 k8) ok4 xs3 (("lots", v1) :: (("parts", a_parts) :: (("self", a_self) :: []))) H2 fun m9 H10 =>
onO (lk "lots" m9) fun v81 =>
rd_k_groups_p8 H10 v81 m9 Q
noncomputable def rd_k_groups (T : Tabs) (cl : CallOp) (a_self a_parts : V) (H : Hp) (Q : V → Hp → Prop) : Prop :=
newO H (.list []) fun v1 H2 =>
rd_k_groups_p9 H2 a_parts T cl v1 a_self Q
theorem rd_k_groups_eq (P : Params) (a : Addr) (l : List Int) (d : Nat) (a_self a_parts : V) (H : Hp) (Q : V → Hp → Prop) : callA (TT P a l) (d + 1) 71 [a_self, a_parts] H Q = rd_k_groups (TT P a l) (callA (TT P a l) d) a_self a_parts H Q := by kernel_rfl
noncomputable def rd_k_pick_p1 (T : Tabs) (H19 : Hp) (v23 : V) (v17 : V) (m18 : Loc) (k20 : Loc → Hp → Prop) : Prop :=
onO (methOf T H19 v23 "get") fun mt24 =>
methV noCall false mt24 v23 [v17, (.int 0)] H19 fun v25 H26 =>
binV .Add v25 (.int 1) H26 fun v27 H28 =>
onO (lk "often" m18) fun v29 =>
sSub H28 v29 v17 v27 fun H30 =>
k20 (("x", v17) :: m18) H30
noncomputable def rd_k_pick_p2 (cl : CallOp) (mt12 : Mth) (v11 : V) (v5 : V) (H7 : Hp) (T : Tabs) (m6 : Loc) (k8 : Loc → Hp → Prop) : Prop :=
methV cl true mt12 v11 [v5] H7 fun v13 H14 =>
overV true H14 v13 fun xs15 ok16 =>
forL (fun v17 m18 H19 k20 =>
onO (lk "often" m18) fun v23 =>
rd_k_pick_p1 T H19 v23 v17 m18 k20) ok16 xs15 (("part", v5) :: m6) H14 fun m21 H22 =>
k8 m21 H22
noncomputable def rd_k_pick_p3 (H38 : Hp) (v47 : V) (v36 : V) (m37 : Loc) (qb46 : Bool → Hp → Prop) : Prop :=
gSub H38 v47 v36 fun v48 H49 =>
onO (lk "often" m37) fun v50 =>
onO (lk "best" m37) fun v51 =>
gSub H49 v50 v51 fun v52 H53 =>
cmpV .Gt v48 v52 H53 fun c54 =>
qb46 c54 H53
noncomputable def rd_k_pick_p4 (c43 : Bool) (H38 : Hp) (m37 : Loc) (v36 : V) (k39 : Loc → Hp → Prop) : Prop :=
brQ c43 (fun qb46 : Bool → Hp → Prop => qb46 true H38) (fun qb46 : Bool → Hp → Prop =>
onO (lk "often" m37) fun v47 =>
rd_k_pick_p3 H38 v47 v36 m37 qb46) fun c44 H45 =>
brQ c44 (fun kn55 : Loc → Hp → Prop =>
kn55 (("best", v36) :: (("x", v36) :: m37)) H45) (fun kn55 : Loc → Hp → Prop =>
kn55 (("x", v36) :: m37) H45) fun m56 H57 =>
k39 m56 H57
noncomputable def rd_k_pick_p5 (H33 : Hp) (v32 : V) (m9 : Loc) (Q : V → Hp → Prop) : Prop :=
overV false H33 v32 fun xs34 ok35 =>
forL (fun v36 m37 H38 k39 =>
onO (lk "best" m37) fun v42 =>
cmpV .Eq v42 (.int 0) H38 fun c43 =>
rd_k_pick_p4 c43 H38 m37 v36 k39) ok35 xs34 (("best", (.int 0)) :: m9) H33 fun m40 H41 =>
onO (lk "best" m40) fun v58 =>
Q v58 H41
noncomputable def rd_k_pick_p6 (H2 : Hp) (a_parts : V) (T : Tabs) (cl : CallOp) (v1 : V) (a_self : V) (Q : V → Hp → Prop) : Prop :=
overV false H2 a_parts fun xs3 ok4 =>
forL (fun v5 m6 H7 k8 =>
onO (lk "self" m6) fun v11 =>
onO (methOf T H7 v11 "support") fun mt12 =>
rd_k_pick_p2 cl mt12 v11 v5 H7 T m6 k8) ok4 xs3 (("often", v1) :: (("parts", a_parts) :: (("self", a_self) :: []))) H2 fun m9 H10 =>
onO (lk "often" m9) fun v31 =>
bltV "sorted" [v31] H10 fun v32 H33 =>
rd_k_pick_p5 H33 v32 m9 Q
noncomputable def rd_k_pick (T : Tabs) (cl : CallOp) (a_self a_parts : V) (H : Hp) (Q : V → Hp → Prop) : Prop :=
newDict H fun v1 H2 =>
rd_k_pick_p6 H2 a_parts T cl v1 a_self Q
theorem rd_k_pick_eq (P : Params) (a : Addr) (l : List Int) (d : Nat) (a_self a_parts : V) (H : Hp) (Q : V → Hp → Prop) : callA (TT P a l) (d + 1) 78 [a_self, a_parts] H Q = rd_k_pick (TT P a l) (callA (TT P a l) d) a_self a_parts H Q := by kernel_rfl
noncomputable def k_plan_sc0 : Scope := compSc (kidE (exprS (stAt (blockS (stAt (blockS (stAt (fbody 8) 0) 0) 1) 0) 0) 0) 1)
theorem k_plan_sc0_self (m : Loc) : lk "self" (freeOf k_plan_sc0 m) = lk "self" m := freeOf_look (by kernel_rfl) m
noncomputable def rd_k_plan_p1 (H16 : Hp) (v13 : V) (a_gate : V) (a_self : V) (T : Tabs) (cl : CallOp) (kn18 : Loc → Hp → Prop) : Prop :=
overV false H16 v13 fun xs21 ok22 => xs21.length < lim ∧
cmpL (fun v23 H24 qo25 =>
onO (lk "self" (freeOf k_plan_sc0 (("lots", v13) :: (("gate", a_gate) :: (("self", a_self) :: []))))) fun v30 =>
gAttr T H24 v30 "circuit" fun v31 H32 =>
onO (methOf T H32 v31 "all_of") fun mt33 =>
methV cl true mt33 v31 [v23] H32 fun v34 H35 =>
qo25 (some v34) H35) ok22 xs21 [] H16 fun ys26 H27 =>
newO H27 (.list ys26) fun v28 H29 =>
newO H29 (.tuple [(.str "product"), v28]) fun v36 H37 =>
gAttr T H37 a_self "plans" fun v38 H39 =>
sSub H39 v38 a_gate v36 fun H40 =>
kn18 (("lots", v13) :: (("gate", a_gate) :: (("self", a_self) :: []))) H40
noncomputable def rd_k_plan_p2 (cl : CallOp) (mt49 : Mth) (a_self : V) (a_gate : V) (v44 : V) (H48 : Hp) (v47 : V) (T : Tabs) (kn18 : Loc → Hp → Prop) (v13 : V) : Prop :=
methV cl true mt49 a_self [a_gate, v44, (.int 1)] H48 fun v50 H51 =>
newO H51 (.list [v47, v50]) fun v52 H53 =>
newO H53 (.tuple [(.str "sum"), v52]) fun v54 H55 =>
gAttr T H55 a_self "plans" fun v56 H57 =>
sSub H57 v56 a_gate v54 fun H58 =>
kn18 (("x", v44) :: (("lots", v13) :: (("gate", a_gate) :: (("self", a_self) :: [])))) H58
noncomputable def rd_k_plan_p3 (H16 : Hp) (v13 : V) (cl : CallOp) (mt41 : Mth) (a_self : V) (T : Tabs) (a_gate : V) (kn18 : Loc → Hp → Prop) : Prop :=
gSub H16 v13 (.int 0) fun v42 H43 =>
methV cl true mt41 a_self [v42] H43 fun v44 H45 =>
onO (methOf T H45 a_self "settled") fun mt46 =>
methV cl true mt46 a_self [a_gate, v44, (.int (-1))] H45 fun v47 H48 =>
onO (methOf T H48 a_self "settled") fun mt49 =>
rd_k_plan_p2 cl mt49 a_self a_gate v44 H48 v47 T kn18 v13
noncomputable def rd_k_plan_p4 (v15 : V) (H16 : Hp) (v13 : V) (a_gate : V) (a_self : V) (T : Tabs) (cl : CallOp) (kn4 : Loc → Hp → Prop) : Prop :=
cmpV .Gt v15 (.int 1) H16 fun c17 =>
brQ c17 (fun kn18 : Loc → Hp → Prop =>
rd_k_plan_p1 H16 v13 a_gate a_self T cl kn18) (fun kn18 : Loc → Hp → Prop =>
onO (methOf T H16 a_self "pick") fun mt41 =>
rd_k_plan_p3 H16 v13 cl mt41 a_self T a_gate kn18) fun m19 H20 =>
kn4 m19 H20
noncomputable def rd_k_plan_p5 (T : Tabs) (H2 : Hp) (a_self : V) (cl : CallOp) (a_gate : V) (mt7 : Mth) (kn4 : Loc → Hp → Prop) : Prop :=
gAttr T H2 a_self "circuit" fun v8 H9 =>
onO (methOf T H9 v8 "parts") fun mt10 =>
methV cl true mt10 v8 [a_gate] H9 fun v11 H12 =>
methV cl true mt7 a_self [v11] H12 fun v13 H14 =>
bltV "len" [v13] H14 fun v15 H16 =>
rd_k_plan_p4 v15 H16 v13 a_gate a_self T cl kn4
noncomputable def rd_k_plan_p6 (c3 : Bool) (T : Tabs) (H2 : Hp) (a_self : V) (cl : CallOp) (a_gate : V) (Q : V → Hp → Prop) : Prop :=
brQ c3 (fun kn4 : Loc → Hp → Prop =>
onO (methOf T H2 a_self "groups") fun mt7 =>
rd_k_plan_p5 T H2 a_self cl a_gate mt7 kn4) (fun kn4 : Loc → Hp → Prop =>
kn4 (("gate", a_gate) :: (("self", a_self) :: [])) H2) fun m5 H6 =>
onO (lk "self" m5) fun v59 =>
gAttr T H6 v59 "plans" fun v60 H61 =>
onO (lk "gate" m5) fun v62 =>
gSub H61 v60 v62 fun v63 H64 =>
Q v63 H64
noncomputable def rd_k_plan (T : Tabs) (cl : CallOp) (a_self a_gate : V) (H : Hp) (Q : V → Hp → Prop) : Prop :=
gAttr T H a_self "plans" fun v1 H2 =>
cmpV .NotIn a_gate v1 H2 fun c3 =>
rd_k_plan_p6 c3 T H2 a_self cl a_gate Q
theorem rd_k_plan_eq (P : Params) (a : Addr) (l : List Int) (d : Nat) (a_self a_gate : V) (H : Hp) (Q : V → Hp → Prop) : callA (TT P a l) (d + 1) 83 [a_self, a_gate] H Q = rd_k_plan (TT P a l) (callA (TT P a l) d) a_self a_gate H Q := by kernel_rfl
noncomputable def rd_k_is_ready_p1 (T : Tabs) (H4 : Hp) (a_self : V) (a_gate : V) (cl : CallOp) (qv9 : V → Hp → Prop) : Prop :=
gAttr T H4 a_self "circuit" fun v10 H11 =>
onO (methOf T H11 v10 "kind") fun mt12 =>
bltV "abs" [a_gate] H11 fun v13 H14 =>
methV cl true mt12 v10 [v13] H14 fun v15 H16 =>
cmpV .NotEq v15 (.str "and") H16 fun c17 =>
qv9 (.bool c17) H16
noncomputable def rd_k_is_ready_p2 (v1 : V) (v3 : V) (H4 : Hp) (T : Tabs) (a_self : V) (a_gate : V) (cl : CallOp) (Q : V → Hp → Prop) : Prop :=
cmpV .In v1 v3 H4 fun c5 =>
onB (.bool c5) fun c6 =>
brQ c6 (fun qv9 : V → Hp → Prop =>
qv9 (.bool true) H4) (fun qv9 : V → Hp → Prop =>
rd_k_is_ready_p1 T H4 a_self a_gate cl qv9) fun v7 H8 =>
Q v7 H8
noncomputable def rd_k_is_ready (T : Tabs) (cl : CallOp) (a_self a_gate : V) (H : Hp) (Q : V → Hp → Prop) : Prop :=
bltV "abs" [a_gate] H fun v1 H2 =>
gAttr T H2 a_self "known" fun v3 H4 =>
rd_k_is_ready_p2 v1 v3 H4 T a_self a_gate cl Q
theorem rd_k_is_ready_eq (P : Params) (a : Addr) (l : List Int) (d : Nat) (a_self a_gate : V) (H : Hp) (Q : V → Hp → Prop) : callA (TT P a l) (d + 1) 90 [a_self, a_gate] H Q = rd_k_is_ready (TT P a l) (callA (TT P a l) d) a_self a_gate H Q := by kernel_rfl
noncomputable def rd_k_own_p1 (T : Tabs) (H36 : Hp) (v42 : V) (m27 : Loc) (cl : CallOp) (v35 : V) (qv41 : V → Hp → Prop) : Prop :=
onO (methOf T H36 v42 "support") fun mt43 =>
onO (lk "gate" m27) fun v44 =>
methV cl true mt43 v42 [v44] H36 fun v45 H46 =>
bltV "len" [v45] H46 fun v47 H48 =>
binV .LShift (.int 1) v47 H48 fun v49 H50 =>
binV .Sub v49 v35 H50 fun v51 H52 =>
qv41 v51 H52
noncomputable def rd_k_own_p2 (v37 : V) (H36 : Hp) (v35 : V) (m27 : Loc) (T : Tabs) (cl : CallOp) (Q : V → Hp → Prop) : Prop :=
cmpV .Gt v37 (.int 0) H36 fun c38 =>
brQ c38 (fun qv41 : V → Hp → Prop =>
qv41 v35 H36) (fun qv41 : V → Hp → Prop =>
onO (lk "self" m27) fun v42 =>
rd_k_own_p1 T H36 v42 m27 cl v35 qv41) fun v39 H40 =>
Q v39 H40
noncomputable def rd_k_own_p3 (T : Tabs) (H28 : Hp) (v29 : V) (m27 : Loc) (cl : CallOp) (Q : V → Hp → Prop) : Prop :=
gAttr T H28 v29 "known" fun v30 H31 =>
onO (lk "gate" m27) fun v32 =>
bltV "abs" [v32] H31 fun v33 H34 =>
gSub H34 v30 v33 fun v35 H36 =>
onO (lk "gate" m27) fun v37 =>
rd_k_own_p2 v37 H36 v35 m27 T cl Q
noncomputable def rd_k_own_p4 (v23 : V) (H24 : Hp) (Q : V → Hp → Prop) (m10 : Loc) (T : Tabs) (cl : CallOp) : Prop :=
cmpV .Eq v23 (.str "input") H24 fun c25 =>
brQ c25 (fun kn26 : Loc → Hp → Prop =>
Q (.int 1) H24) (fun kn26 : Loc → Hp → Prop =>
kn26 m10 H24) fun m27 H28 =>
onO (lk "self" m27) fun v29 =>
rd_k_own_p3 T H28 v29 m27 cl Q
noncomputable def rd_k_own_p5 (T : Tabs) (H11 : Hp) (v16 : V) (m10 : Loc) (cl : CallOp) (Q : V → Hp → Prop) : Prop :=
gAttr T H11 v16 "circuit" fun v17 H18 =>
onO (methOf T H18 v17 "kind") fun mt19 =>
onO (lk "gate" m10) fun v20 =>
bltV "abs" [v20] H18 fun v21 H22 =>
methV cl true mt19 v17 [v21] H22 fun v23 H24 =>
rd_k_own_p4 v23 H24 Q m10 T cl
noncomputable def rd_k_own_p6 (c8 : Bool) (a_gate : V) (H7 : Hp) (Q : V → Hp → Prop) (a_self : V) (T : Tabs) (cl : CallOp) : Prop :=
brQ c8 (fun kn9 : Loc → Hp → Prop =>
cmpV .Gt a_gate (.int 0) H7 fun c12 =>
brQ c12 (fun qv15 : V → Hp → Prop =>
qv15 (.int 1) H7) (fun qv15 : V → Hp → Prop =>
qv15 (.int 0) H7) fun v13 H14 =>
Q v13 H14) (fun kn9 : Loc → Hp → Prop =>
kn9 (("gate", a_gate) :: (("self", a_self) :: [])) H7) fun m10 H11 =>
onO (lk "self" m10) fun v16 =>
rd_k_own_p5 T H11 v16 m10 cl Q
noncomputable def rd_k_own_p7 (T : Tabs) (H : Hp) (a_self : V) (a_gate : V) (cl : CallOp) (Q : V → Hp → Prop) : Prop :=
gAttr T H a_self "circuit" fun v1 H2 =>
onO (methOf T H2 v1 "kind") fun mt3 =>
bltV "abs" [a_gate] H2 fun v4 H5 =>
methV cl true mt3 v1 [v4] H5 fun v6 H7 =>
cmpV .Eq v6 (.str "true") H7 fun c8 =>
rd_k_own_p6 c8 a_gate H7 Q a_self T cl
noncomputable def rd_k_own (T : Tabs) (cl : CallOp) (a_self a_gate : V) (H : Hp) (Q : V → Hp → Prop) : Prop :=
rd_k_own_p7 T H a_self a_gate cl Q
theorem rd_k_own_eq (P : Params) (a : Addr) (l : List Int) (d : Nat) (a_self a_gate : V) (H : Hp) (Q : V → Hp → Prop) : callA (TT P a l) (d + 1) 97 [a_self, a_gate] H Q = rd_k_own (TT P a l) (callA (TT P a l) d) a_self a_gate H Q := by kernel_rfl
noncomputable def k_combined_sc0 : Scope := compSc (kidE (exprS (stAt (fbody 11) 3) 0) 1)
theorem k_combined_sc0_many (m : Loc) : lk "many" (freeOf k_combined_sc0 m) = lk "many" m := freeOf_look (by kernel_rfl) m
theorem k_combined_sc0_self (m : Loc) : lk "self" (freeOf k_combined_sc0 m) = lk "self" m := freeOf_look (by kernel_rfl) m
noncomputable def rd_k_combined_p1 (m14 : Loc) (T : Tabs) (H15 : Hp) (cl : CallOp) (v13 : V) (k16 : Loc → Hp → Prop) : Prop :=
onO (lk "found" m14) fun v19 =>
onO (lk "self" m14) fun v20 =>
onO (methOf T H15 v20 "own") fun mt21 =>
methV cl true mt21 v20 [v13] H15 fun v22 H23 =>
binV .Mult v19 v22 H23 fun v24 H25 =>
k16 (("found", v24) :: (("part", v13) :: m14)) H25
noncomputable def rd_k_combined_p2 (m4 : Loc) (H3 : Hp) (T : Tabs) (cl : CallOp) (Q : V → Hp → Prop) : Prop :=
onO (lk "some" m4) fun v10 =>
overV false H3 v10 fun xs11 ok12 =>
forL (fun v13 m14 H15 k16 =>
rd_k_combined_p1 m14 T H15 cl v13 k16) ok12 xs11 (("found", (.int 1)) :: m4) H3 fun m17 H18 =>
onO (lk "found" m17) fun v26 =>
Q v26 H18
noncomputable def rd_k_combined_p3 (T : Tabs) (H49 : Hp) (v51 : V) (cl : CallOp) (v39 : V) (v50 : V) (v48 : V) (qo41 : Option V → Hp → Prop) : Prop :=
onO (methOf T H49 v51 "support") fun mt52 =>
methV cl true mt52 v51 [v39] H49 fun v53 H54 =>
bltV "len" [v53] H54 fun v55 H56 =>
binV .Sub v50 v55 H56 fun v57 H58 =>
binV .LShift v48 v57 H58 fun v59 H60 =>
qo41 (some v59) H60
noncomputable def rd_k_combined_p4 (v34 : V) (m8 : Loc) (T : Tabs) (H40 : Hp) (cl : CallOp) (v39 : V) (qo41 : Option V → Hp → Prop) : Prop :=
onO (lk "self" (freeOf k_combined_sc0 (("many", v34) :: m8))) fun v46 =>
onO (methOf T H40 v46 "own") fun mt47 =>
methV cl true mt47 v46 [v39] H40 fun v48 H49 =>
onO (lk "many" (freeOf k_combined_sc0 (("many", v34) :: m8))) fun v50 =>
onO (lk "self" (freeOf k_combined_sc0 (("many", v34) :: m8))) fun v51 =>
rd_k_combined_p3 T H49 v51 cl v39 v50 v48 qo41
noncomputable def rd_k_combined_p5 (H35 : Hp) (v36 : V) (v34 : V) (m8 : Loc) (T : Tabs) (cl : CallOp) (Q : V → Hp → Prop) : Prop :=
overV false H35 v36 fun xs37 ok38 => xs37.length < lim ∧
cmpL (fun v39 H40 qo41 =>
rd_k_combined_p4 v34 m8 T H40 cl v39 qo41) ok38 xs37 [] H35 fun ys42 H43 =>
newO H43 (.list ys42) fun v44 H45 =>
bltV "sum" [v44] H45 fun v61 H62 =>
Q v61 H62
noncomputable def rd_k_combined_p6 (T : Tabs) (H9 : Hp) (v27 : V) (m8 : Loc) (cl : CallOp) (Q : V → Hp → Prop) : Prop :=
onO (methOf T H9 v27 "support") fun mt28 =>
onO (lk "gate" m8) fun v29 =>
methV cl true mt28 v27 [v29] H9 fun v30 H31 =>
bltV "len" [v30] H31 fun v32 H33 =>
binV .Sub v32 (.int 1) H33 fun v34 H35 =>
onO (lk "some" m8) fun v36 =>
rd_k_combined_p5 H35 v36 v34 m8 T cl Q
noncomputable def rd_k_combined_p7 (v5 : V) (H3 : Hp) (m4 : Loc) (T : Tabs) (cl : CallOp) (Q : V → Hp → Prop) : Prop :=
cmpV .Eq v5 (.str "product") H3 fun c6 =>
brQ c6 (fun kn7 : Loc → Hp → Prop =>
rd_k_combined_p2 m4 H3 T cl Q) (fun kn7 : Loc → Hp → Prop =>
kn7 m4 H3) fun m8 H9 =>
onO (lk "self" m8) fun v27 =>
rd_k_combined_p6 T H9 v27 m8 cl Q
noncomputable def rd_k_combined (T : Tabs) (cl : CallOp) (a_self a_gate : V) (H : Hp) (Q : V → Hp → Prop) : Prop :=
onO (methOf T H a_self "plan") fun mt1 =>
methV cl true mt1 a_self [a_gate] H fun v2 H3 =>
bindN H3 ["kind", "some"] v2 (("gate", a_gate) :: (("self", a_self) :: [])) fun m4 =>
onO (lk "kind" m4) fun v5 =>
rd_k_combined_p7 v5 H3 m4 T cl Q
theorem rd_k_combined_eq (P : Params) (a : Addr) (l : List Int) (d : Nat) (a_self a_gate : V) (H : Hp) (Q : V → Hp → Prop) : callA (TT P a l) (d + 1) 102 [a_self, a_gate] H Q = rd_k_combined (TT P a l) (callA (TT P a l) d) a_self a_gate H Q := by kernel_rfl
noncomputable def k_count_sc0 : Scope := compSc (exprS (stAt (blockS (stAt (fbody 12) 1) 0) 2) 0)
theorem k_count_sc0_self (m : Loc) : lk "self" (freeOf k_count_sc0 m) = lk "self" m := freeOf_look (by kernel_rfl) m
noncomputable def rd_k_count_p1 (m27 : Loc) (T : Tabs) (H43 : Hp) (cl : CallOp) (v42 : V) (qo44 : Option V → Hp → Prop) : Prop :=
onO (lk "self" (freeOf k_count_sc0 m27)) fun v49 =>
onO (methOf T H43 v49 "is_ready") fun mt50 =>
methV cl true mt50 v49 [v42] H43 fun v51 H52 =>
onB v51 fun c53 =>
brB (!c53) (bltV "abs" [v42] H52 fun v54 H55 =>
qo44 (some v54) H55) (qo44 .none H52)
noncomputable def rd_k_count_p2 (cl : CallOp) (mt67 : Mth) (v66 : V) (v68 : V) (H57 : Hp) (m27 : Loc) (T : Tabs) (kn59 : Loc → Hp → Prop) (v47 : V) : Prop :=
methV cl true mt67 v66 [v68] H57 fun v69 H70 =>
onO (lk "self" m27) fun v71 =>
gAttr T H70 v71 "known" fun v72 H73 =>
onO (lk "here" m27) fun v74 =>
sSub H73 v72 v74 v69 fun H75 =>
kn59 (("lacking", v47) :: m27) H75
noncomputable def rd_k_count_p3 (c58 : Bool) (m27 : Loc) (T : Tabs) (H57 : Hp) (cl : CallOp) (v47 : V) (k11 : Loc → Hp → Prop) : Prop :=
brQ c58 (fun kn59 : Loc → Hp → Prop =>
onO (lk "stack" m27) fun v62 =>
onO (methOf T H57 v62 "extend") fun mt63 =>
methV cl true mt63 v62 [v47] H57 fun v64 H65 =>
drp v64 (kn59 (("lacking", v47) :: m27) H65)) (fun kn59 : Loc → Hp → Prop =>
onO (lk "self" m27) fun v66 =>
onO (methOf T H57 v66 "combined") fun mt67 =>
onO (lk "here" m27) fun v68 =>
rd_k_count_p2 cl mt67 v66 v68 H57 m27 T kn59 v47) fun m60 H61 =>
k11 m60 H61
noncomputable def rd_k_count_p4 (H39 : Hp) (v38 : V) (m27 : Loc) (T : Tabs) (cl : CallOp) (k11 : Loc → Hp → Prop) : Prop :=
overV false H39 v38 fun xs40 ok41 => xs40.length < lim ∧
cmpL (fun v42 H43 qo44 =>
rd_k_count_p1 m27 T H43 cl v42 qo44) ok41 xs40 [] H39 fun ys45 H46 =>
newO H46 (.list ys45) fun v47 H48 =>
bltV "len" [v47] H48 fun v56 H57 =>
cmpV .Gt v56 (.int 0) H57 fun c58 =>
rd_k_count_p3 c58 m27 T H57 cl v47 k11
noncomputable def rd_k_count_p5 (m27 : Loc) (T : Tabs) (H28 : Hp) (cl : CallOp) (k11 : Loc → Hp → Prop) : Prop :=
onO (lk "self" m27) fun v33 =>
onO (methOf T H28 v33 "plan") fun mt34 =>
onO (lk "here" m27) fun v35 =>
methV cl true mt34 v33 [v35] H28 fun v36 H37 =>
gSub H37 v36 (.int 1) fun v38 H39 =>
rd_k_count_p4 H39 v38 m27 T cl k11
noncomputable def rd_k_count_p6 (c25 : Bool) (m9 : Loc) (T : Tabs) (H24 : Hp) (cl : CallOp) (k11 : Loc → Hp → Prop) (v19 : V) : Prop :=
brQ c25 (fun kn26 : Loc → Hp → Prop =>
onO (lk "stack" m9) fun v29 =>
onO (methOf T H24 v29 "pop") fun mt30 =>
methV cl true mt30 v29 [] H24 fun v31 H32 =>
drp v31 (k11 (("here", v19) :: m9) H32)) (fun kn26 : Loc → Hp → Prop =>
kn26 (("here", v19) :: m9) H24) fun m27 H28 =>
rd_k_count_p5 m27 T H28 cl k11
noncomputable def rd_k_count_p7 (H10 : Hp) (v18 : V) (m9 : Loc) (T : Tabs) (cl : CallOp) (k11 : Loc → Hp → Prop) : Prop :=
gSub H10 v18 (.int (-1)) fun v19 H20 =>
onO (lk "self" m9) fun v21 =>
onO (methOf T H20 v21 "is_ready") fun mt22 =>
methV cl true mt22 v21 [v19] H20 fun v23 H24 =>
onB v23 fun c25 =>
rd_k_count_p6 c25 m9 T H24 cl k11 v19
noncomputable def rd_k_count_p8 (T : Tabs) (H85 : Hp) (v86 : V) (m12 : Loc) (cl : CallOp) (v84 : V) (v79 : V) (Q : V → Hp → Prop) : Prop :=
onO (methOf T H85 v86 "support") fun mt87 =>
onO (lk "gate" m12) fun v88 =>
methV cl true mt87 v86 [v88] H85 fun v89 H90 =>
bltV "len" [v89] H90 fun v91 H92 =>
binV .Sub v84 v91 H92 fun v93 H94 =>
binV .LShift v79 v93 H94 fun v95 H96 =>
Q v95 H96
noncomputable def rd_k_count_p9 (cl : CallOp) (mt77 : Mth) (v76 : V) (v78 : V) (H13 : Hp) (m12 : Loc) (T : Tabs) (Q : V → Hp → Prop) : Prop :=
methV cl true mt77 v76 [v78] H13 fun v79 H80 =>
onO (lk "self" m12) fun v81 =>
gAttr T H80 v81 "inputs" fun v82 H83 =>
bltV "len" [v82] H83 fun v84 H85 =>
onO (lk "self" m12) fun v86 =>
rd_k_count_p8 T H85 v86 m12 cl v84 v79 Q
noncomputable def rd_k_count_p10 (T : Tabs) (cl : CallOp) (v3 : V) (a_gate : V) (a_self : V) (H4 : Hp) (Q : V → Hp → Prop) : Prop :=
∃ n5, whl (fun m6 H7 qt8 =>
onO (lk "stack" m6) fun v14 =>
bltV "len" [v14] H7 fun v15 H16 =>
cmpV .Gt v15 (.int 0) H16 fun c17 =>
qt8 c17 H16) (fun m9 H10 k11 =>
onO (lk "stack" m9) fun v18 =>
rd_k_count_p7 H10 v18 m9 T cl k11) n5 (("stack", v3) :: (("gate", a_gate) :: (("self", a_self) :: []))) H4 fun m12 H13 =>
onO (lk "self" m12) fun v76 =>
onO (methOf T H13 v76 "own") fun mt77 =>
onO (lk "gate" m12) fun v78 =>
rd_k_count_p9 cl mt77 v76 v78 H13 m12 T Q
noncomputable def rd_k_count (T : Tabs) (cl : CallOp) (a_self a_gate : V) (H : Hp) (Q : V → Hp → Prop) : Prop :=
bltV "abs" [a_gate] H fun v1 H2 =>
newO H2 (.list [v1]) fun v3 H4 =>
rd_k_count_p10 T cl v3 a_gate a_self H4 Q
theorem rd_k_count_eq (P : Params) (a : Addr) (l : List Int) (d : Nat) (a_self a_gate : V) (H : Hp) (Q : V → Hp → Prop) : callA (TT P a l) (d + 1) 107 [a_self, a_gate] H Q = rd_k_count (TT P a l) (callA (TT P a l) d) a_self a_gate H Q := by kernel_rfl
noncomputable def rd_c_init_p1 (H5 : Hp) (v4 : V) (T : Tabs) (a_self : V) (Q : V → Hp → Prop) : Prop :=
newO H5 (.tuple []) fun v6 H7 =>
newO H7 (.list [v4, v6]) fun v8 H9 =>
sAttr T H9 a_self "parts_now" v8 fun H10 =>
newDict H10 fun v11 H12 =>
sAttr T H12 a_self "known" v11 fun H13 =>
Q .none H13
noncomputable def rd_c_init (T : Tabs) (cl : CallOp) (a_self : V) (H : Hp) (Q : V → Hp → Prop) : Prop :=
newO H (.list [(.str ""), (.str "true")]) fun v1 H2 =>
sAttr T H2 a_self "kinds" v1 fun H3 =>
newO H3 (.tuple []) fun v4 H5 =>
rd_c_init_p1 H5 v4 T a_self Q
theorem rd_c_init_eq (P : Params) (a : Addr) (l : List Int) (d : Nat) (a_self : V) (H : Hp) (Q : V → Hp → Prop) : callA (TT P a l) (d + 1) 128 [a_self] H Q = rd_c_init (TT P a l) (callA (TT P a l) d) a_self H Q := by kernel_rfl
noncomputable def rd_c_kind (T : Tabs) (cl : CallOp) (a_self a_g : V) (H : Hp) (Q : V → Hp → Prop) : Prop :=
gAttr T H a_self "kinds" fun v1 H2 =>
bltV "abs" [a_g] H2 fun v3 H4 =>
gSub H4 v1 v3 fun v5 H6 =>
Q v5 H6
theorem rd_c_kind_eq (P : Params) (a : Addr) (l : List Int) (d : Nat) (a_self a_g : V) (H : Hp) (Q : V → Hp → Prop) : callA (TT P a l) (d + 1) 142 [a_self, a_g] H Q = rd_c_kind (TT P a l) (callA (TT P a l) d) a_self a_g H Q := by kernel_rfl
noncomputable def rd_c_parts (T : Tabs) (cl : CallOp) (a_self a_g : V) (H : Hp) (Q : V → Hp → Prop) : Prop :=
gAttr T H a_self "parts_now" fun v1 H2 =>
bltV "abs" [a_g] H2 fun v3 H4 =>
gSub H4 v1 v3 fun v5 H6 =>
Q v5 H6
theorem rd_c_parts_eq (P : Params) (a : Addr) (l : List Int) (d : Nat) (a_self a_g : V) (H : Hp) (Q : V → Hp → Prop) : callA (TT P a l) (d + 1) 149 [a_self, a_g] H Q = rd_c_parts (TT P a l) (callA (TT P a l) d) a_self a_g H Q := by kernel_rfl
noncomputable def rd_c_new_gate_p1 (T : Tabs) (H7 : Hp) (v6 : V) (cl : CallOp) (a_parts : V) (a_self : V) (Q : V → Hp → Prop) : Prop :=
onO (methOf T H7 v6 "append") fun mt8 =>
methV cl true mt8 v6 [a_parts] H7 fun v9 H10 =>
drp v9 (gAttr T H10 a_self "kinds" fun v11 H12 =>
bltV "len" [v11] H12 fun v13 H14 =>
binV .Sub v13 (.int 1) H14 fun v15 H16 =>
Q v15 H16)
noncomputable def rd_c_new_gate (T : Tabs) (cl : CallOp) (a_self a_kind a_parts : V) (H : Hp) (Q : V → Hp → Prop) : Prop :=
gAttr T H a_self "kinds" fun v1 H2 =>
onO (methOf T H2 v1 "append") fun mt3 =>
methV cl true mt3 v1 [a_kind] H2 fun v4 H5 =>
drp v4 (gAttr T H5 a_self "parts_now" fun v6 H7 =>
rd_c_new_gate_p1 T H7 v6 cl a_parts a_self Q)
theorem rd_c_new_gate_eq (P : Params) (a : Addr) (l : List Int) (d : Nat) (a_self a_kind a_parts : V) (H : Hp) (Q : V → Hp → Prop) : callA (TT P a l) (d + 1) 156 [a_self, a_kind, a_parts] H Q = rd_c_new_gate (TT P a l) (callA (TT P a l) d) a_self a_kind a_parts H Q := by kernel_rfl
noncomputable def rd_c_new_input (T : Tabs) (cl : CallOp) (a_self : V) (H : Hp) (Q : V → Hp → Prop) : Prop :=
onO (methOf T H a_self "new_gate") fun mt1 =>
newO H (.tuple []) fun v2 H3 =>
methV cl true mt1 a_self [(.str "input"), v2] H3 fun v4 H5 =>
Q v4 H5
theorem rd_c_new_input_eq (P : Params) (a : Addr) (l : List Int) (d : Nat) (a_self : V) (H : Hp) (Q : V → Hp → Prop) : callA (TT P a l) (d + 1) 163 [a_self] H Q = rd_c_new_input (TT P a l) (callA (TT P a l) d) a_self H Q := by kernel_rfl
noncomputable def rd_c_all_of_p1 (c22 : Bool) (m19 : Loc) (H20 : Hp) (k8 : Loc → Hp → Prop) : Prop :=
brQ c22 (fun kn23 : Loc → Hp → Prop =>
onO (lk "found" m19) fun v26 =>
onO (lk "g" m19) fun v27 =>
sSub H20 v26 v27 (.bool true) fun H28 =>
kn23 m19 H28) (fun kn23 : Loc → Hp → Prop =>
kn23 m19 H20) fun m24 H25 =>
k8 m24 H25
noncomputable def rd_c_all_of_p2 (c12 : Bool) (Q : V → Hp → Prop) (H13 : Hp) (v5 : V) (m6 : Loc) (k8 : Loc → Hp → Prop) : Prop :=
brQ c12 (fun kn18 : Loc → Hp → Prop =>
Q (.int (-1)) H13) (fun kn18 : Loc → Hp → Prop =>
kn18 (("g", v5) :: m6) H13) fun m19 H20 =>
onO (lk "g" m19) fun v21 =>
cmpV .NotEq v21 (.int 1) H20 fun c22 =>
rd_c_all_of_p1 c22 m19 H20 k8
noncomputable def rd_c_all_of_p3 (c11 : Bool) (H7 : Hp) (v5 : V) (m6 : Loc) (Q : V → Hp → Prop) (k8 : Loc → Hp → Prop) : Prop :=
brQ c11 (fun qb14 : Bool → Hp → Prop => qb14 true H7) (fun qb14 : Bool → Hp → Prop =>
onI v5 fun i15 =>
onO (lk "found" m6) fun v16 =>
cmpV .In (.int (-i15)) v16 H7 fun c17 =>
qb14 c17 H7) fun c12 H13 =>
rd_c_all_of_p2 c12 Q H13 v5 m6 k8
noncomputable def rd_c_all_of_p4 (v40 : V) (H41 : Hp) (v32 : V) (Q : V → Hp → Prop) : Prop :=
cmpV .Eq v40 (.int 1) H41 fun c42 =>
brQ c42 (fun qv45 : V → Hp → Prop =>
gSub H41 v32 (.int 0) fun v46 H47 =>
qv45 v46 H47) (fun qv45 : V → Hp → Prop =>
qv45 (.int 1) H41) fun v43 H44 =>
Q v43 H44
noncomputable def rd_c_all_of_p5 (cl : CallOp) (mt57 : Mth) (v56 : V) (v58 : V) (H51 : Hp) (m38 : Loc) (T : Tabs) (kn53 : Loc → Hp → Prop) : Prop :=
methV cl true mt57 v56 [(.str "and"), v58] H51 fun v59 H60 =>
onO (lk "self" m38) fun v61 =>
gAttr T H60 v61 "known" fun v62 H63 =>
onO (lk "parts" m38) fun v64 =>
sSub H63 v62 v64 v59 fun H65 =>
kn53 m38 H65
noncomputable def rd_c_all_of_p6 (c52 : Bool) (m38 : Loc) (T : Tabs) (H51 : Hp) (cl : CallOp) (Q : V → Hp → Prop) : Prop :=
brQ c52 (fun kn53 : Loc → Hp → Prop =>
onO (lk "self" m38) fun v56 =>
onO (methOf T H51 v56 "new_gate") fun mt57 =>
onO (lk "parts" m38) fun v58 =>
rd_c_all_of_p5 cl mt57 v56 v58 H51 m38 T kn53) (fun kn53 : Loc → Hp → Prop =>
kn53 m38 H51) fun m54 H55 =>
onO (lk "self" m54) fun v66 =>
gAttr T H55 v66 "known" fun v67 H68 =>
onO (lk "parts" m54) fun v69 =>
gSub H68 v67 v69 fun v70 H71 =>
Q v70 H71
noncomputable def rd_c_all_of_p7 (c36 : Bool) (v32 : V) (H35 : Hp) (Q : V → Hp → Prop) (m9 : Loc) (T : Tabs) (cl : CallOp) : Prop :=
brQ c36 (fun kn37 : Loc → Hp → Prop =>
bltV "len" [v32] H35 fun v40 H41 =>
rd_c_all_of_p4 v40 H41 v32 Q) (fun kn37 : Loc → Hp → Prop =>
kn37 (("parts", v32) :: m9) H35) fun m38 H39 =>
onO (lk "parts" m38) fun v48 =>
onO (lk "self" m38) fun v49 =>
gAttr T H39 v49 "known" fun v50 H51 =>
cmpV .NotIn v48 v50 H51 fun c52 =>
rd_c_all_of_p6 c52 m38 T H51 cl Q
noncomputable def rd_c_all_of_p8 (m9 : Loc) (H10 : Hp) (Q : V → Hp → Prop) (T : Tabs) (cl : CallOp) : Prop :=
onO (lk "found" m9) fun v29 =>
bltV "sorted" [v29] H10 fun v30 H31 =>
typV "tuple" [v30] H31 fun v32 H33 =>
bltV "len" [v32] H33 fun v34 H35 =>
cmpV .Lt v34 (.int 2) H35 fun c36 =>
rd_c_all_of_p7 c36 v32 H35 Q m9 T cl
noncomputable def rd_c_all_of (T : Tabs) (cl : CallOp) (a_self a_gates : V) (H : Hp) (Q : V → Hp → Prop) : Prop :=
newDict H fun v1 H2 =>
overV false H2 a_gates fun xs3 ok4 =>
forL (fun v5 m6 H7 k8 =>
cmpV .Eq v5 (.int (-1)) H7 fun c11 =>
rd_c_all_of_p3 c11 H7 v5 m6 Q k8) ok4 xs3 (("found", v1) :: (("gates", a_gates) :: (("self", a_self) :: []))) H2 fun m9 H10 =>
rd_c_all_of_p8 m9 H10 Q T cl
theorem rd_c_all_of_eq (P : Params) (a : Addr) (l : List Int) (d : Nat) (a_self a_gates : V) (H : Hp) (Q : V → Hp → Prop) : callA (TT P a l) (d + 1) 170 [a_self, a_gates] H Q = rd_c_all_of (TT P a l) (callA (TT P a l) d) a_self a_gates H Q := by kernel_rfl
noncomputable def c_any_of_sc0 : Scope := compSc (kidE (kidE (exprS (stAt (fbody 19) 0) 0) 0) 1)
noncomputable def rd_c_any_of_p1 (H : Hp) (a_gates : V) (cl : CallOp) (mt1 : Mth) (a_self : V) (Q : V → Hp → Prop) : Prop :=
overV false H a_gates fun xs2 ok3 => xs2.length < lim ∧
cmpL (fun v4 H5 qo6 =>
onI v4 fun i11 =>
qo6 (some (.int (-i11))) H5) ok3 xs2 [] H fun ys7 H8 =>
newO H8 (.list ys7) fun v9 H10 =>
methV cl true mt1 a_self [v9] H10 fun v12 H13 =>
onI v12 fun i14 =>
Q (.int (-i14)) H13
noncomputable def rd_c_any_of (T : Tabs) (cl : CallOp) (a_self a_gates : V) (H : Hp) (Q : V → Hp → Prop) : Prop :=
onO (methOf T H a_self "all_of") fun mt1 =>
rd_c_any_of_p1 H a_gates cl mt1 a_self Q
theorem rd_c_any_of_eq (P : Params) (a : Addr) (l : List Int) (d : Nat) (a_self a_gates : V) (H : Hp) (Q : V → Hp → Prop) : callA (TT P a l) (d + 1) 175 [a_self, a_gates] H Q = rd_c_any_of (TT P a l) (callA (TT P a l) d) a_self a_gates H Q := by kernel_rfl
noncomputable def rd_c_implies_p1 (T : Tabs) (H : Hp) (a_self : V) (a_b : V) (a_a : V) (cl : CallOp) (Q : V → Hp → Prop) : Prop :=
onO (methOf T H a_self "all_of") fun mt1 =>
onI a_b fun i2 =>
newO H (.tuple [a_a, (.int (-i2))]) fun v3 H4 =>
methV cl true mt1 a_self [v3] H4 fun v5 H6 =>
onI v5 fun i7 =>
Q (.int (-i7)) H6
noncomputable def rd_c_implies (T : Tabs) (cl : CallOp) (a_self a_a a_b : V) (H : Hp) (Q : V → Hp → Prop) : Prop :=
rd_c_implies_p1 T H a_self a_b a_a cl Q
theorem rd_c_implies_eq (P : Params) (a : Addr) (l : List Int) (d : Nat) (a_self a_a a_b : V) (H : Hp) (Q : V → Hp → Prop) : callA (TT P a l) (d + 1) 196 [a_self, a_a, a_b] H Q = rd_c_implies (TT P a l) (callA (TT P a l) d) a_self a_a a_b H Q := by kernel_rfl
noncomputable def rd_c_iff_p1 (cl : CallOp) (mt2 : Mth) (a_self : V) (a_a : V) (a_b : V) (H : Hp) (T : Tabs) (mt1 : Mth) (Q : V → Hp → Prop) : Prop :=
methV cl true mt2 a_self [a_a, a_b] H fun v3 H4 =>
onO (methOf T H4 a_self "implies") fun mt5 =>
methV cl true mt5 a_self [a_b, a_a] H4 fun v6 H7 =>
newO H7 (.tuple [v3, v6]) fun v8 H9 =>
methV cl true mt1 a_self [v8] H9 fun v10 H11 =>
Q v10 H11
noncomputable def rd_c_iff (T : Tabs) (cl : CallOp) (a_self a_a a_b : V) (H : Hp) (Q : V → Hp → Prop) : Prop :=
onO (methOf T H a_self "all_of") fun mt1 =>
onO (methOf T H a_self "implies") fun mt2 =>
rd_c_iff_p1 cl mt2 a_self a_a a_b H T mt1 Q
theorem rd_c_iff_eq (P : Params) (a : Addr) (l : List Int) (d : Nat) (a_self a_a a_b : V) (H : Hp) (Q : V → Hp → Prop) : callA (TT P a l) (d + 1) 203 [a_self, a_a, a_b] H Q = rd_c_iff (TT P a l) (callA (TT P a l) d) a_self a_a a_b H Q := by kernel_rfl
noncomputable def rd_c_unlike (T : Tabs) (cl : CallOp) (a_self a_a a_b : V) (H : Hp) (Q : V → Hp → Prop) : Prop :=
onO (methOf T H a_self "iff") fun mt1 =>
methV cl true mt1 a_self [a_a, a_b] H fun v2 H3 =>
onI v2 fun i4 =>
Q (.int (-i4)) H3
theorem rd_c_unlike_eq (P : Params) (a : Addr) (l : List Int) (d : Nat) (a_self a_a a_b : V) (H : Hp) (Q : V → Hp → Prop) : callA (TT P a l) (d + 1) 210 [a_self, a_a, a_b] H Q = rd_c_unlike (TT P a l) (callA (TT P a l) d) a_self a_a a_b H Q := by kernel_rfl
noncomputable def rd_c_choose_p1 (T : Tabs) (H4 : Hp) (a_self : V) (a_c : V) (cl : CallOp) (a_b : V) (v3 : V) (mt1 : Mth) (Q : V → Hp → Prop) : Prop :=
onO (methOf T H4 a_self "implies") fun mt5 =>
onI a_c fun i6 =>
methV cl true mt5 a_self [(.int (-i6)), a_b] H4 fun v7 H8 =>
newO H8 (.tuple [v3, v7]) fun v9 H10 =>
methV cl true mt1 a_self [v9] H10 fun v11 H12 =>
Q v11 H12
noncomputable def rd_c_choose (T : Tabs) (cl : CallOp) (a_self a_c a_a a_b : V) (H : Hp) (Q : V → Hp → Prop) : Prop :=
onO (methOf T H a_self "all_of") fun mt1 =>
onO (methOf T H a_self "implies") fun mt2 =>
methV cl true mt2 a_self [a_c, a_a] H fun v3 H4 =>
rd_c_choose_p1 T H4 a_self a_c cl a_b v3 mt1 Q
theorem rd_c_choose_eq (P : Params) (a : Addr) (l : List Int) (d : Nat) (a_self a_c a_a a_b : V) (H : Hp) (Q : V → Hp → Prop) : callA (TT P a l) (d + 1) 217 [a_self, a_c, a_a, a_b] H Q = rd_c_choose (TT P a l) (callA (TT P a l) d) a_self a_c a_a a_b H Q := by kernel_rfl
noncomputable def rd_law_next_p1 (v40 : V) (H41 : Hp) (m12 : Loc) (Q : V → Hp → Prop) : Prop :=
binV .Add v40 (.int 3) H41 fun v42 H43 =>
typV "int" [v42] H43 fun v44 H45 =>
binV .Mod v44 (.int 97) H45 fun v46 H47 =>
onO (lk "wide" m12) fun v48 =>
binV .Mod v46 v48 H47 fun v49 H50 =>
Q v49 H50
noncomputable def rd_law_next_p2 (m12 : Loc) (H32 : Hp) (v31 : V) (Q : V → Hp → Prop) : Prop :=
onO (lk "feed" m12) fun v33 =>
gSub H32 v33 (.str "cells") fun v34 H35 =>
bltV "len" [v34] H35 fun v36 H37 =>
binV .Mult (.int 2) v36 H37 fun v38 H39 =>
binV .Add v31 v38 H39 fun v40 H41 =>
rd_law_next_p1 v40 H41 m12 Q
noncomputable def rd_law_next_p3 (m12 : Loc) (v23 : V) (H24 : Hp) (Q : V → Hp → Prop) : Prop :=
onO (lk "spot" m12) fun v25 =>
binV .Mult v23 v25 H24 fun v26 H27 =>
onO (lk "spot" m12) fun v28 =>
binV .Mult (.int 13) v28 H27 fun v29 H30 =>
binV .Add v26 v29 H30 fun v31 H32 =>
rd_law_next_p2 m12 H32 v31 Q
noncomputable def rd_law_next_p4 (c10 : Bool) (H9 : Hp) (a_feed : V) (v1 : V) (a_wide : V) (Q : V → Hp → Prop) : Prop :=
brQ c10 (fun kn11 : Loc → Hp → Prop =>
gSub H9 a_feed (.str "cells") fun v14 H15 =>
gSub H15 v14 v1 fun v16 H17 =>
typV "int" [v16] H17 fun v18 H19 =>
binV .Mod v18 a_wide H19 fun v20 H21 =>
Q v20 H21) (fun kn11 : Loc → Hp → Prop =>
kn11 (("spot", v1) :: (("wide", a_wide) :: (("feed", a_feed) :: []))) H9) fun m12 H13 =>
onO (lk "spot" m12) fun v22 =>
binV .Mult (.int 4) v22 H13 fun v23 H24 =>
rd_law_next_p3 m12 v23 H24 Q
noncomputable def rd_law_next_p5 (v1 : V) (H2 : Hp) (a_feed : V) (a_wide : V) (Q : V → Hp → Prop) : Prop :=
binV .Add v1 (.int 1) H2 fun v3 H4 =>
sSub H4 a_feed (.str "spot") v3 fun H5 =>
gSub H5 a_feed (.str "cells") fun v6 H7 =>
bltV "len" [v6] H7 fun v8 H9 =>
cmpV .Lt v1 v8 H9 fun c10 =>
rd_law_next_p4 c10 H9 a_feed v1 a_wide Q
noncomputable def rd_law_next (T : Tabs) (cl : CallOp) (a_feed a_wide : V) (H : Hp) (Q : V → Hp → Prop) : Prop :=
gSub H a_feed (.str "spot") fun v1 H2 =>
rd_law_next_p5 v1 H2 a_feed a_wide Q
theorem rd_law_next_eq (P : Params) (a : Addr) (l : List Int) (d : Nat) (a_feed a_wide : V) (H : Hp) (Q : V → Hp → Prop) : callA (TT P a l) (d + 1) 231 [a_feed, a_wide] H Q = rd_law_next (TT P a l) (callA (TT P a l) d) a_feed a_wide H Q := by kernel_rfl
noncomputable def law_input_table_sc0 : Scope := compSc (kidE (exprS (stAt (fbody 25) 0) 0) 1)
theorem law_input_table_sc0_k (m : Loc) : lk "k" (freeOf law_input_table_sc0 m) = lk "k" m := freeOf_look (by kernel_rfl) m
noncomputable def rd_law_input_table_p1 (v12 : V) (H6 : Hp) (v5 : V) (qo7 : Option V → Hp → Prop) : Prop :=
binV .Pow (.int 2) v12 H6 fun v13 H14 =>
binV .FloorDiv v5 v13 H14 fun v15 H16 =>
binV .Mod v15 (.int 2) H16 fun v17 H18 =>
cmpV .Eq v17 (.int 1) H18 fun c19 =>
brB c19 (binV .Pow (.int 2) v5 H18 fun v20 H21 =>
qo7 (some v20) H21) (qo7 .none H18)
noncomputable def rd_law_input_table_p2 (H2 : Hp) (v1 : V) (a_rows : V) (a_k : V) (Q : V → Hp → Prop) : Prop :=
overV true H2 v1 fun xs3 ok4 => xs3.length < lim ∧
cmpL (fun v5 H6 qo7 =>
onO (lk "k" (freeOf law_input_table_sc0 (("rows", a_rows) :: (("k", a_k) :: [])))) fun v12 =>
rd_law_input_table_p1 v12 H6 v5 qo7) ok4 xs3 [] H2 fun ys8 H9 =>
newO H9 (.list ys8) fun v10 H11 =>
bltV "sum" [v10] H11 fun v22 H23 =>
Q v22 H23
noncomputable def rd_law_input_table (T : Tabs) (cl : CallOp) (a_k a_rows : V) (H : Hp) (Q : V → Hp → Prop) : Prop :=
typV "range" [a_rows] H fun v1 H2 =>
rd_law_input_table_p2 H2 v1 a_rows a_k Q
theorem rd_law_input_table_eq (P : Params) (a : Addr) (l : List Int) (d : Nat) (a_k a_rows : V) (H : Hp) (Q : V → Hp → Prop) : callA (TT P a l) (d + 1) 236 [a_k, a_rows] H Q = rd_law_input_table (TT P a l) (callA (TT P a l) d) a_k a_rows H Q := by kernel_rfl
noncomputable def rd_law_made_p1 (T : Tabs) (H4 : Hp) (v15 : V) (m3 : Loc) (cl : CallOp) (Q : V → Hp → Prop) : Prop :=
onO (methOf T H4 v15 "any_of") fun mt16 =>
onO (lk "a" m3) fun v17 =>
onO (lk "b" m3) fun v18 =>
onO (lk "c" m3) fun v19 =>
newO H4 (.list [v17, v18, v19]) fun v20 H21 =>
methV cl true mt16 v15 [v20] H21 fun v22 H23 =>
Q v22 H23
noncomputable def rd_law_made_p2 (m13 : Loc) (T : Tabs) (H14 : Hp) (cl : CallOp) (Q : V → Hp → Prop) : Prop :=
onO (lk "circuit" m13) fun v29 =>
onO (methOf T H14 v29 "iff") fun mt30 =>
onO (lk "a" m13) fun v31 =>
onO (lk "b" m13) fun v32 =>
methV cl true mt30 v29 [v31, v32] H14 fun v33 H34 =>
Q v33 H34
noncomputable def rd_law_made_p3 (m27 : Loc) (T : Tabs) (H28 : Hp) (cl : CallOp) (Q : V → Hp → Prop) : Prop :=
onO (lk "circuit" m27) fun v40 =>
onO (methOf T H28 v40 "unlike") fun mt41 =>
onO (lk "a" m27) fun v42 =>
onO (lk "b" m27) fun v43 =>
methV cl true mt41 v40 [v42, v43] H28 fun v44 H45 =>
Q v44 H45
noncomputable def rd_law_made_p4 (T : Tabs) (H39 : Hp) (v51 : V) (m38 : Loc) (cl : CallOp) (qv50 : V → Hp → Prop) : Prop :=
onO (methOf T H39 v51 "choose") fun mt52 =>
onO (lk "a" m38) fun v53 =>
onO (lk "b" m38) fun v54 =>
onO (lk "c" m38) fun v55 =>
methV cl true mt52 v51 [v53, v54, v55] H39 fun v56 H57 =>
qv50 v56 H57
noncomputable def rd_law_made_p5 (m38 : Loc) (T : Tabs) (H39 : Hp) (cl : CallOp) (qv50 : V → Hp → Prop) : Prop :=
onO (lk "circuit" m38) fun v58 =>
onO (methOf T H39 v58 "implies") fun mt59 =>
onO (lk "a" m38) fun v60 =>
onO (lk "b" m38) fun v61 =>
methV cl true mt59 v58 [v60, v61] H39 fun v62 H63 =>
qv50 v62 H63
noncomputable def rd_law_made_p6 (v46 : V) (H39 : Hp) (m38 : Loc) (T : Tabs) (cl : CallOp) (Q : V → Hp → Prop) : Prop :=
cmpV .Eq v46 (.int 4) H39 fun c47 =>
brQ c47 (fun qv50 : V → Hp → Prop =>
onO (lk "circuit" m38) fun v51 =>
rd_law_made_p4 T H39 v51 m38 cl qv50) (fun qv50 : V → Hp → Prop =>
rd_law_made_p5 m38 T H39 cl qv50) fun v48 H49 =>
Q v48 H49
noncomputable def rd_law_made_p7 (v35 : V) (H28 : Hp) (m27 : Loc) (T : Tabs) (cl : CallOp) (Q : V → Hp → Prop) : Prop :=
cmpV .Eq v35 (.int 3) H28 fun c36 =>
brQ c36 (fun kn37 : Loc → Hp → Prop =>
rd_law_made_p3 m27 T H28 cl Q) (fun kn37 : Loc → Hp → Prop =>
kn37 m27 H28) fun m38 H39 =>
onO (lk "way" m38) fun v46 =>
rd_law_made_p6 v46 H39 m38 T cl Q
noncomputable def rd_law_made_p8 (v24 : V) (H14 : Hp) (m13 : Loc) (T : Tabs) (cl : CallOp) (Q : V → Hp → Prop) : Prop :=
cmpV .Eq v24 (.int 2) H14 fun c25 =>
brQ c25 (fun kn26 : Loc → Hp → Prop =>
rd_law_made_p2 m13 T H14 cl Q) (fun kn26 : Loc → Hp → Prop =>
kn26 m13 H14) fun m27 H28 =>
onO (lk "way" m27) fun v35 =>
rd_law_made_p7 v35 H28 m27 T cl Q
noncomputable def rd_law_made_p9 (c11 : Bool) (m3 : Loc) (T : Tabs) (H4 : Hp) (cl : CallOp) (Q : V → Hp → Prop) : Prop :=
brQ c11 (fun kn12 : Loc → Hp → Prop =>
onO (lk "circuit" m3) fun v15 =>
rd_law_made_p1 T H4 v15 m3 cl Q) (fun kn12 : Loc → Hp → Prop =>
kn12 m3 H4) fun m13 H14 =>
onO (lk "way" m13) fun v24 =>
rd_law_made_p8 v24 H14 m13 T cl Q
noncomputable def rd_law_made_p10 (c1 : Bool) (T : Tabs) (H : Hp) (a_circuit : V) (a_a : V) (a_b : V) (a_c : V) (cl : CallOp) (Q : V → Hp → Prop) (a_way : V) : Prop :=
brQ c1 (fun kn2 : Loc → Hp → Prop =>
onO (methOf T H a_circuit "all_of") fun mt5 =>
newO H (.list [a_a, a_b, a_c]) fun v6 H7 =>
methV cl true mt5 a_circuit [v6] H7 fun v8 H9 =>
Q v8 H9) (fun kn2 : Loc → Hp → Prop =>
kn2 (("c", a_c) :: (("b", a_b) :: (("a", a_a) :: (("way", a_way) :: (("circuit", a_circuit) :: []))))) H) fun m3 H4 =>
onO (lk "way" m3) fun v10 =>
cmpV .Eq v10 (.int 1) H4 fun c11 =>
rd_law_made_p9 c11 m3 T H4 cl Q
noncomputable def rd_law_made (T : Tabs) (cl : CallOp) (a_circuit a_way a_a a_b a_c : V) (H : Hp) (Q : V → Hp → Prop) : Prop :=
cmpV .Eq a_way (.int 0) H fun c1 =>
rd_law_made_p10 c1 T H a_circuit a_a a_b a_c cl Q a_way
theorem rd_law_made_eq (P : Params) (a : Addr) (l : List Int) (d : Nat) (a_circuit a_way a_a a_b a_c : V) (H : Hp) (Q : V → Hp → Prop) : callA (TT P a l) (d + 1) 243 [a_circuit, a_way, a_a, a_b, a_c] H Q = rd_law_made (TT P a l) (callA (TT P a l) d) a_circuit a_way a_a a_b a_c H Q := by kernel_rfl
noncomputable def rd_law_table_p1 (m3 : Loc) (H4 : Hp) (Q : V → Hp → Prop) : Prop :=
onO (lk "a" m3) fun v14 =>
onO (lk "b" m3) fun v15 =>
binV .BitOr v14 v15 H4 fun v16 H17 =>
onO (lk "c" m3) fun v18 =>
binV .BitOr v16 v18 H17 fun v19 H20 =>
Q v19 H20
noncomputable def rd_law_table_p2 (m12 : Loc) (H13 : Hp) (Q : V → Hp → Prop) : Prop :=
onO (lk "full" m12) fun v26 =>
onO (lk "a" m12) fun v27 =>
onO (lk "b" m12) fun v28 =>
binV .BitXor v27 v28 H13 fun v29 H30 =>
binV .Sub v26 v29 H30 fun v31 H32 =>
Q v31 H32
noncomputable def rd_law_table_p3 (m36 : Loc) (v51 : V) (H50 : Hp) (v49 : V) (qv46 : V → Hp → Prop) : Prop :=
onO (lk "a" m36) fun v52 =>
binV .Sub v51 v52 H50 fun v53 H54 =>
onO (lk "c" m36) fun v55 =>
binV .BitAnd v53 v55 H54 fun v56 H57 =>
binV .BitOr v49 v56 H57 fun v58 H59 =>
qv46 v58 H59
noncomputable def rd_law_table_p4 (m36 : Loc) (H37 : Hp) (qv46 : V → Hp → Prop) : Prop :=
onO (lk "full" m36) fun v60 =>
onO (lk "a" m36) fun v61 =>
binV .Sub v60 v61 H37 fun v62 H63 =>
onO (lk "b" m36) fun v64 =>
binV .BitOr v62 v64 H63 fun v65 H66 =>
qv46 v65 H66
noncomputable def rd_law_table_p5 (c43 : Bool) (m36 : Loc) (H37 : Hp) (Q : V → Hp → Prop) : Prop :=
brQ c43 (fun qv46 : V → Hp → Prop =>
onO (lk "a" m36) fun v47 =>
onO (lk "b" m36) fun v48 =>
binV .BitAnd v47 v48 H37 fun v49 H50 =>
onO (lk "full" m36) fun v51 =>
rd_law_table_p3 m36 v51 H50 v49 qv46) (fun qv46 : V → Hp → Prop =>
rd_law_table_p4 m36 H37 qv46) fun v44 H45 =>
Q v44 H45
noncomputable def rd_law_table_p6 (c34 : Bool) (m24 : Loc) (H25 : Hp) (Q : V → Hp → Prop) : Prop :=
brQ c34 (fun kn35 : Loc → Hp → Prop =>
onO (lk "a" m24) fun v38 =>
onO (lk "b" m24) fun v39 =>
binV .BitXor v38 v39 H25 fun v40 H41 =>
Q v40 H41) (fun kn35 : Loc → Hp → Prop =>
kn35 m24 H25) fun m36 H37 =>
onO (lk "way" m36) fun v42 =>
cmpV .Eq v42 (.int 4) H37 fun c43 =>
rd_law_table_p5 c43 m36 H37 Q
noncomputable def rd_law_table_p7 (c22 : Bool) (m12 : Loc) (H13 : Hp) (Q : V → Hp → Prop) : Prop :=
brQ c22 (fun kn23 : Loc → Hp → Prop =>
rd_law_table_p2 m12 H13 Q) (fun kn23 : Loc → Hp → Prop =>
kn23 m12 H13) fun m24 H25 =>
onO (lk "way" m24) fun v33 =>
cmpV .Eq v33 (.int 3) H25 fun c34 =>
rd_law_table_p6 c34 m24 H25 Q
noncomputable def rd_law_table_p8 (c10 : Bool) (m3 : Loc) (H4 : Hp) (Q : V → Hp → Prop) : Prop :=
brQ c10 (fun kn11 : Loc → Hp → Prop =>
rd_law_table_p1 m3 H4 Q) (fun kn11 : Loc → Hp → Prop =>
kn11 m3 H4) fun m12 H13 =>
onO (lk "way" m12) fun v21 =>
cmpV .Eq v21 (.int 2) H13 fun c22 =>
rd_law_table_p7 c22 m12 H13 Q
noncomputable def rd_law_table_p9 (c1 : Bool) (a_a : V) (a_b : V) (H : Hp) (a_c : V) (Q : V → Hp → Prop) (a_full : V) (a_way : V) : Prop :=
brQ c1 (fun kn2 : Loc → Hp → Prop =>
binV .BitAnd a_a a_b H fun v5 H6 =>
binV .BitAnd v5 a_c H6 fun v7 H8 =>
Q v7 H8) (fun kn2 : Loc → Hp → Prop =>
kn2 (("full", a_full) :: (("c", a_c) :: (("b", a_b) :: (("a", a_a) :: (("way", a_way) :: []))))) H) fun m3 H4 =>
onO (lk "way" m3) fun v9 =>
cmpV .Eq v9 (.int 1) H4 fun c10 =>
rd_law_table_p8 c10 m3 H4 Q
noncomputable def rd_law_table (T : Tabs) (cl : CallOp) (a_way a_a a_b a_c a_full : V) (H : Hp) (Q : V → Hp → Prop) : Prop :=
cmpV .Eq a_way (.int 0) H fun c1 =>
rd_law_table_p9 c1 a_a a_b H a_c Q a_full a_way
theorem rd_law_table_eq (P : Params) (a : Addr) (l : List Int) (d : Nat) (a_way a_a a_b a_c a_full : V) (H : Hp) (Q : V → Hp → Prop) : callA (TT P a l) (d + 1) 250 [a_way, a_a, a_b, a_c, a_full] H Q = rd_law_table (TT P a l) (callA (TT P a l) d) a_way a_a a_b a_c a_full H Q := by kernel_rfl
noncomputable def rd_law_ones_p1 (v12 : V) (v14 : V) (H15 : Hp) (m5 : Loc) (k7 : Loc → Hp → Prop) : Prop :=
binV .Add v12 v14 H15 fun v16 H17 =>
onO (lk "table" m5) fun v18 =>
binV .FloorDiv v18 (.int 2) H17 fun v19 H20 =>
newO H20 (.tuple [v16, v19]) fun v21 H22 =>
bindN H22 ["found", "table"] v21 m5 fun m23 =>
k7 m23 H22
noncomputable def rd_law_ones_p2 (a_table : V) (H : Hp) (Q : V → Hp → Prop) : Prop :=
∃ n1, whl (fun m2 H3 qt4 =>
onO (lk "table" m2) fun v10 =>
cmpV .Gt v10 (.int 0) H3 fun c11 =>
qt4 c11 H3) (fun m5 H6 k7 =>
onO (lk "found" m5) fun v12 =>
onO (lk "table" m5) fun v13 =>
binV .Mod v13 (.int 2) H6 fun v14 H15 =>
rd_law_ones_p1 v12 v14 H15 m5 k7) n1 (("found", (.int 0)) :: (("table", a_table) :: [])) H fun m8 H9 =>
onO (lk "found" m8) fun v24 =>
Q v24 H9
noncomputable def rd_law_ones (T : Tabs) (cl : CallOp) (a_table : V) (H : Hp) (Q : V → Hp → Prop) : Prop :=
rd_law_ones_p2 a_table H Q
theorem rd_law_ones_eq (P : Params) (a : Addr) (l : List Int) (d : Nat) (a_table : V) (H : Hp) (Q : V → Hp → Prop) : callA (TT P a l) (d + 1) 257 [a_table] H Q = rd_law_ones (TT P a l) (callA (TT P a l) d) a_table H Q := by kernel_rfl
noncomputable def rd_law_drawn_p1 (v19 : V) (H10 : Hp) (m7 : Loc) (qv14 : V → Hp → Prop) : Prop :=
binV .Sub (.int 0) v19 H10 fun v20 H21 =>
onO (lk "full" m7) fun v22 =>
onO (lk "table" m7) fun v23 =>
binV .Sub v22 v23 H21 fun v24 H25 =>
newO H25 (.tuple [v20, v24]) fun v26 H27 =>
qv14 v26 H27
noncomputable def rd_law_drawn_p2 (c11 : Bool) (m7 : Loc) (H10 : Hp) (Q : V → Hp → Prop) : Prop :=
brQ c11 (fun qv14 : V → Hp → Prop =>
onO (lk "gate" m7) fun v15 =>
onO (lk "table" m7) fun v16 =>
newO H10 (.tuple [v15, v16]) fun v17 H18 =>
qv14 v17 H18) (fun qv14 : V → Hp → Prop =>
onO (lk "gate" m7) fun v19 =>
rd_law_drawn_p1 v19 H10 m7 qv14) fun v12 H13 =>
Q v12 H13
noncomputable def rd_law_drawn_p3 (H4 : Hp) (a_some : V) (v3 : V) (a_full : V) (a_feed : V) (cl : CallOp) (Q : V → Hp → Prop) : Prop :=
gSub H4 a_some v3 fun v5 H6 =>
bindN H6 ["gate", "table"] v5 (("full", a_full) :: (("some", a_some) :: (("feed", a_feed) :: []))) fun m7 =>
onO (lk "feed" m7) fun v8 =>
cl 231 [v8, (.int 2)] H6 fun v9 H10 =>
cmpV .Eq v9 (.int 0) H10 fun c11 =>
rd_law_drawn_p2 c11 m7 H10 Q
noncomputable def rd_law_drawn (T : Tabs) (cl : CallOp) (a_feed a_some a_full : V) (H : Hp) (Q : V → Hp → Prop) : Prop :=
bltV "len" [a_some] H fun v1 H2 =>
cl 231 [a_feed, v1] H2 fun v3 H4 =>
rd_law_drawn_p3 H4 a_some v3 a_full a_feed cl Q
theorem rd_law_drawn_eq (P : Params) (a : Addr) (l : List Int) (d : Nat) (a_feed a_some a_full : V) (H : Hp) (Q : V → Hp → Prop) : callA (TT P a l) (d + 1) 264 [a_feed, a_some, a_full] H Q = rd_law_drawn (TT P a l) (callA (TT P a l) d) a_feed a_some a_full H Q := by kernel_rfl
noncomputable def rd_law_own_table_p1 (cl : CallOp) (v14 : V) (v20 : V) (H16 : Hp) (m15 : Loc) (k17 : Loc → Hp → Prop) : Prop :=
cl 236 [v14, v20] H16 fun v21 H22 =>
onO (lk "known" m15) fun v23 =>
onO (lk "inputs" m15) fun v24 =>
gSub H22 v24 v14 fun v25 H26 =>
sSub H26 v23 v25 v21 fun H27 =>
k17 (("k", v14) :: m15) H27
noncomputable def rd_law_own_table_p2 (v82 : V) (H83 : Hp) (m65 : Loc) (v64 : V) (qv77 : V → Hp → Prop) : Prop :=
binV .Sub v82 (.int 1) H83 fun v84 H85 =>
onO (lk "known" m65) fun v86 =>
binV .Sub (.int 0) v64 H85 fun v87 H88 =>
gSub H88 v86 v87 fun v89 H90 =>
binV .Sub v84 v89 H90 fun v91 H92 =>
qv77 v91 H92
noncomputable def rd_law_own_table_p3 (c74 : Bool) (m65 : Loc) (H73 : Hp) (v64 : V) (v72 : V) (k67 : Loc → Hp → Prop) : Prop :=
brQ c74 (fun qv77 : V → Hp → Prop =>
onO (lk "known" m65) fun v78 =>
gSub H73 v78 v64 fun v79 H80 =>
qv77 v79 H80) (fun qv77 : V → Hp → Prop =>
onO (lk "rows" m65) fun v81 =>
binV .Pow (.int 2) v81 H73 fun v82 H83 =>
rd_law_own_table_p2 v82 H83 m65 v64 qv77) fun v75 H76 =>
binV .BitAnd v72 v75 H76 fun v93 H94 =>
onO (lk "known" m65) fun v95 =>
onO (lk "g" m65) fun v96 =>
sSub H94 v95 v96 v93 fun H97 =>
k67 (("part", v64) :: m65) H97
noncomputable def rd_law_own_table_p4 (H61 : Hp) (v60 : V) (v37 : V) (m38 : Loc) (kn48 : Loc → Hp → Prop) : Prop :=
overV false H61 v60 fun xs62 ok63 =>
forL (fun v64 m65 H66 k67 =>
onO (lk "known" m65) fun v70 =>
onO (lk "g" m65) fun v71 =>
gSub H66 v70 v71 fun v72 H73 =>
cmpV .Gt v64 (.int 0) H73 fun c74 =>
rd_law_own_table_p3 c74 m65 H73 v64 v72 k67) ok63 xs62 (("g", v37) :: m38) H61 fun m68 H69 =>
kn48 m68 H69
noncomputable def rd_law_own_table_p5 (m38 : Loc) (H55 : Hp) (v37 : V) (v54 : V) (T : Tabs) (cl : CallOp) (kn48 : Loc → Hp → Prop) : Prop :=
onO (lk "known" m38) fun v56 =>
sSub H55 v56 v37 v54 fun H57 =>
onO (lk "circuit" m38) fun v58 =>
onO (methOf T H57 v58 "parts") fun mt59 =>
methV cl true mt59 v58 [v37] H57 fun v60 H61 =>
rd_law_own_table_p4 H61 v60 v37 m38 kn48
noncomputable def rd_law_own_table_p6 (c47 : Bool) (m38 : Loc) (H46 : Hp) (v37 : V) (T : Tabs) (cl : CallOp) (k40 : Loc → Hp → Prop) : Prop :=
brQ c47 (fun kn48 : Loc → Hp → Prop =>
onO (lk "rows" m38) fun v51 =>
binV .Pow (.int 2) v51 H46 fun v52 H53 =>
binV .Sub v52 (.int 1) H53 fun v54 H55 =>
rd_law_own_table_p5 m38 H55 v37 v54 T cl kn48) (fun kn48 : Loc → Hp → Prop =>
kn48 (("g", v37) :: m38) H46) fun m49 H50 =>
k40 m49 H50
noncomputable def rd_law_own_table_p7 (m41 : Loc) (H111 : Hp) (v110 : V) (qv102 : V → Hp → Prop) : Prop :=
onO (lk "known" m41) fun v112 =>
onO (lk "gate" m41) fun v113 =>
binV .Sub (.int 0) v113 H111 fun v114 H115 =>
gSub H115 v112 v114 fun v116 H117 =>
binV .Sub v110 v116 H117 fun v118 H119 =>
qv102 v118 H119
noncomputable def rd_law_own_table_p8 (c99 : Bool) (m41 : Loc) (H42 : Hp) (Q : V → Hp → Prop) : Prop :=
brQ c99 (fun qv102 : V → Hp → Prop =>
onO (lk "known" m41) fun v103 =>
onO (lk "gate" m41) fun v104 =>
gSub H42 v103 v104 fun v105 H106 =>
qv102 v105 H106) (fun qv102 : V → Hp → Prop =>
onO (lk "rows" m41) fun v107 =>
binV .Pow (.int 2) v107 H42 fun v108 H109 =>
binV .Sub v108 (.int 1) H109 fun v110 H111 =>
rd_law_own_table_p7 m41 H111 v110 qv102) fun v100 H101 =>
Q v100 H101
noncomputable def rd_law_own_table_p9 (H34 : Hp) (v33 : V) (T : Tabs) (cl : CallOp) (m18 : Loc) (Q : V → Hp → Prop) : Prop :=
overV false H34 v33 fun xs35 ok36 =>
forL (fun v37 m38 H39 k40 =>
onO (lk "circuit" m38) fun v43 =>
onO (methOf T H39 v43 "kind") fun mt44 =>
methV cl true mt44 v43 [v37] H39 fun v45 H46 =>
cmpV .Eq v45 (.str "and") H46 fun c47 =>
rd_law_own_table_p6 c47 m38 H46 v37 T cl k40) ok36 xs35 m18 H34 fun m41 H42 =>
onO (lk "gate" m41) fun v98 =>
cmpV .Gt v98 (.int 0) H42 fun c99 =>
rd_law_own_table_p8 c99 m41 H42 Q
noncomputable def rd_law_own_table_p10 (H11 : Hp) (v10 : V) (cl : CallOp) (v1 : V) (a_rows : V) (a_gate : V) (a_inputs : V) (a_circuit : V) (T : Tabs) (Q : V → Hp → Prop) : Prop :=
overV false H11 v10 fun xs12 ok13 =>
forL (fun v14 m15 H16 k17 =>
onO (lk "rows" m15) fun v20 =>
rd_law_own_table_p1 cl v14 v20 H16 m15 k17) ok13 xs12 (("known", v1) :: (("rows", a_rows) :: (("gate", a_gate) :: (("inputs", a_inputs) :: (("circuit", a_circuit) :: []))))) H11 fun m18 H19 =>
onO (lk "gate" m18) fun v28 =>
bltV "abs" [v28] H19 fun v29 H30 =>
binV .Add v29 (.int 1) H30 fun v31 H32 =>
typV "range" [(.int 2), v31] H32 fun v33 H34 =>
rd_law_own_table_p9 H34 v33 T cl m18 Q
noncomputable def rd_law_own_table_p11 (v3 : V) (H4 : Hp) (a_inputs : V) (cl : CallOp) (a_rows : V) (a_gate : V) (a_circuit : V) (T : Tabs) (Q : V → Hp → Prop) : Prop :=
binV .Sub v3 (.int 1) H4 fun v5 H6 =>
onO (pairsI? [((.int 1), v5)]) fun l7 =>
newO H6 (.dictI (putAll [] l7)) fun v1 H2 =>
bltV "len" [a_inputs] H2 fun v8 H9 =>
typV "range" [v8] H9 fun v10 H11 =>
rd_law_own_table_p10 H11 v10 cl v1 a_rows a_gate a_inputs a_circuit T Q
noncomputable def rd_law_own_table (T : Tabs) (cl : CallOp) (a_circuit a_inputs a_gate a_rows : V) (H : Hp) (Q : V → Hp → Prop) : Prop :=
binV .Pow (.int 2) a_rows H fun v3 H4 =>
rd_law_own_table_p11 v3 H4 a_inputs cl a_rows a_gate a_circuit T Q
theorem rd_law_own_table_eq (P : Params) (a : Addr) (l : List Int) (d : Nat) (a_circuit a_inputs a_gate a_rows : V) (H : Hp) (Q : V → Hp → Prop) : callA (TT P a l) (d + 1) 271 [a_circuit, a_inputs, a_gate, a_rows] H Q = rd_law_own_table (TT P a l) (callA (TT P a l) d) a_circuit a_inputs a_gate a_rows H Q := by kernel_rfl
noncomputable def rd_law_is_right_p1 (a_rows : V) (v18 : V) (H19 : Hp) (cl : CallOp) (a_table : V) (v16 : V) (v14 : V) (Q : V → Hp → Prop) : Prop :=
binV .Sub a_rows v18 H19 fun v20 H21 =>
cl 257 [a_table] H21 fun v22 H23 =>
newO H23 (.list [v16, v20, v22]) fun v24 H25 =>
bltV "repr" [v24] H25 fun v26 H27 =>
cmpV .Eq v14 v26 H27 fun c28 =>
Q (.bool c28) H27
noncomputable def rd_law_is_right_p2 (cl : CallOp) (mt9 : Mth) (a_counter : V) (a_gate : V) (H8 : Hp) (v2 : V) (v7 : V) (a_table : V) (a_rows : V) (Q : V → Hp → Prop) : Prop :=
methV cl true mt9 a_counter [a_gate] H8 fun v10 H11 =>
newO H11 (.list [v2, v7, v10]) fun v12 H13 =>
bltV "repr" [v12] H13 fun v14 H15 =>
cl 257 [a_table] H15 fun v16 H17 =>
cl 257 [a_table] H17 fun v18 H19 =>
rd_law_is_right_p1 a_rows v18 H19 cl a_table v16 v14 Q
noncomputable def rd_law_is_right_p3 (cl : CallOp) (mt1 : Mth) (a_counter : V) (a_gate : V) (H : Hp) (T : Tabs) (a_table : V) (a_rows : V) (Q : V → Hp → Prop) : Prop :=
methV cl true mt1 a_counter [a_gate] H fun v2 H3 =>
onO (methOf T H3 a_counter "count") fun mt4 =>
binV .Sub (.int 0) a_gate H3 fun v5 H6 =>
methV cl true mt4 a_counter [v5] H6 fun v7 H8 =>
onO (methOf T H8 a_counter "count") fun mt9 =>
rd_law_is_right_p2 cl mt9 a_counter a_gate H8 v2 v7 a_table a_rows Q
noncomputable def rd_law_is_right (T : Tabs) (cl : CallOp) (a_counter a_gate a_table a_rows : V) (H : Hp) (Q : V → Hp → Prop) : Prop :=
onO (methOf T H a_counter "count") fun mt1 =>
rd_law_is_right_p3 cl mt1 a_counter a_gate H T a_table a_rows Q
theorem rd_law_is_right_eq (P : Params) (a : Addr) (l : List Int) (d : Nat) (a_counter a_gate a_table a_rows : V) (H : Hp) (Q : V → Hp → Prop) : callA (TT P a l) (d + 1) 278 [a_counter, a_gate, a_table, a_rows] H Q = rd_law_is_right (TT P a l) (callA (TT P a l) d) a_counter a_gate a_table a_rows H Q := by kernel_rfl
noncomputable def law_sc0 : Scope := compSc (exprS (stAt (fbody 32) 2) 0)
theorem law_sc0_circuit (m : Loc) : lk "circuit" (freeOf law_sc0 m) = lk "circuit" m := freeOf_look (by kernel_rfl) m
noncomputable def law_sc1 : Scope := compSc (kidE (exprS (stAt (fbody 32) 5) 0) 1)
theorem law_sc1_inputs (m : Loc) : lk "inputs" (freeOf law_sc1 m) = lk "inputs" m := freeOf_look (by kernel_rfl) m
theorem law_sc1_rows (m : Loc) : lk "rows" (freeOf law_sc1 m) = lk "rows" m := freeOf_look (by kernel_rfl) m
noncomputable def law_sc2 : Scope := compSc (exprS (stAt (blockS (stAt (fbody 32) 6) 0) 1) 0)
theorem law_sc2_feed (m : Loc) : lk "feed" (freeOf law_sc2 m) = lk "feed" m := freeOf_look (by kernel_rfl) m
theorem law_sc2_some (m : Loc) : lk "some" (freeOf law_sc2 m) = lk "some" m := freeOf_look (by kernel_rfl) m
theorem law_sc2_full (m : Loc) : lk "full" (freeOf law_sc2 m) = lk "full" m := freeOf_look (by kernel_rfl) m
noncomputable def rd_law_p1 (v44 : V) (v40 : V) (v32 : V) (u17 : V) (u15 : V) (v1 : V) (a_script : V) (H57 : Hp) (v56 : V) (cl : CallOp) (qo58 : Option V → Hp → Prop) : Prop :=
onO (lk "inputs" (freeOf law_sc1 (("full", v44) :: (("rows", v40) :: (("inputs", v32) :: (("some", u17) :: (("circuit", u15) :: (("feed", v1) :: (("script", a_script) :: []))))))))) fun v63 =>
gSub H57 v63 v56 fun v64 H65 =>
onO (lk "rows" (freeOf law_sc1 (("full", v44) :: (("rows", v40) :: (("inputs", v32) :: (("some", u17) :: (("circuit", u15) :: (("feed", v1) :: (("script", a_script) :: []))))))))) fun v66 =>
cl 236 [v56, v66] H65 fun v67 H68 =>
newO H68 (.tuple [v64, v67]) fun v69 H70 =>
qo58 (some v69) H70
noncomputable def rd_law_p2 (cl : CallOp) (v130 : V) (v88 : V) (u110 : V) (u117 : V) (u124 : V) (H100 : Hp) (m82 : Loc) (u112 : V) (u119 : V) (u126 : V) (mt129 : Mth) (v128 : V) (k84 : Loc → Hp → Prop) (v81 : V) : Prop :=
cl 243 [v130, v88, u110, u117, u124] H100 fun v131 H132 =>
onO (lk "full" m82) fun v133 =>
cl 250 [v88, u112, u119, u126, v133] H132 fun v134 H135 =>
newO H135 (.tuple [v131, v134]) fun v136 H137 =>
methV cl true mt129 v128 [v136] H137 fun v138 H139 =>
drp v138 (k84 (("u", u126) :: (("c", u124) :: (("t", u119) :: (("b", u117) :: (("s", u112) :: (("a", u110) :: (("way", v88) :: (("lap", v81) :: m82)))))))) H139)
noncomputable def rd_law_p3 (us115 : List V) (H100 : Hp) (m82 : Loc) (T : Tabs) (cl : CallOp) (v88 : V) (u110 : V) (u117 : V) (u112 : V) (u119 : V) (k84 : Loc → Hp → Prop) (v81 : V) : Prop :=
cas1 us115 fun u121 us122 =>
unp H100 u121 2 fun us123 =>
cas1 us123 fun u124 us125 =>
cas1 us125 fun u126 us127 =>
cas0 us127 (cas0 us122 (onO (lk "some" m82) fun v128 =>
onO (methOf T H100 v128 "append") fun mt129 =>
onO (lk "circuit" m82) fun v130 =>
rd_law_p2 cl v130 v88 u110 u117 u124 H100 m82 u112 u119 u126 mt129 v128 k84 v81))
noncomputable def rd_law_p4 (us111 : List V) (us108 : List V) (H100 : Hp) (m82 : Loc) (T : Tabs) (cl : CallOp) (v88 : V) (u110 : V) (k84 : Loc → Hp → Prop) (v81 : V) : Prop :=
cas1 us111 fun u112 us113 =>
cas0 us113 (cas1 us108 fun u114 us115 =>
unp H100 u114 2 fun us116 =>
cas1 us116 fun u117 us118 =>
cas1 us118 fun u119 us120 =>
cas0 us120 (rd_law_p3 us115 H100 m82 T cl v88 u110 u117 u112 u119 k84 v81))
noncomputable def rd_law_p5 (H91 : Hp) (v90 : V) (v88 : V) (v81 : V) (m82 : Loc) (cl : CallOp) (T : Tabs) (k84 : Loc → Hp → Prop) : Prop :=
overV false H91 v90 fun xs92 ok93 => xs92.length < lim ∧
cmpL (fun v94 H95 qo96 =>
onO (lk "feed" (freeOf law_sc2 (("way", v88) :: (("lap", v81) :: m82)))) fun v101 =>
onO (lk "some" (freeOf law_sc2 (("way", v88) :: (("lap", v81) :: m82)))) fun v102 =>
onO (lk "full" (freeOf law_sc2 (("way", v88) :: (("lap", v81) :: m82)))) fun v103 =>
cl 264 [v101, v102, v103] H95 fun v104 H105 =>
qo96 (some v104) H105) ok93 xs92 [] H91 fun ys97 H98 =>
newO H98 (.list ys97) fun v99 H100 =>
unp H100 v99 3 fun us106 =>
cas1 us106 fun u107 us108 =>
unp H100 u107 2 fun us109 =>
cas1 us109 fun u110 us111 =>
rd_law_p4 us111 us108 H100 m82 T cl v88 u110 k84 v81
noncomputable def rd_law_p6 (cl : CallOp) (v182 : V) (v184 : V) (v185 : V) (v186 : V) (H183 : Hp) (Q : V → Hp → Prop) (m178 : Loc) (k164 : Loc → Hp → Prop) : Prop :=
cl 278 [v182, v184, v185, v186] H183 fun v187 H188 =>
onB v187 fun c189 =>
brQ (!c189) (fun kn190 : Loc → Hp → Prop =>
Q (.bool false) H188) (fun kn190 : Loc → Hp → Prop =>
kn190 m178 H188) fun m191 H192 =>
k164 m191 H192
noncomputable def rd_law_p7 (m178 : Loc) (cl : CallOp) (v180 : V) (H179 : Hp) (Q : V → Hp → Prop) (k164 : Loc → Hp → Prop) : Prop :=
onO (lk "inputs" m178) fun v181 =>
newI cl 110 35 [v180, v181] H179 fun v182 H183 =>
onO (lk "gate" m178) fun v184 =>
onO (lk "table" m178) fun v185 =>
onO (lk "rows" m178) fun v186 =>
rd_law_p6 cl v182 v184 v185 v186 H183 Q m178 k164
noncomputable def rd_law_p8 (v174 : V) (Q : V → Hp → Prop) (H175 : Hp) (u170 : V) (u168 : V) (m162 : Loc) (cl : CallOp) (k164 : Loc → Hp → Prop) : Prop :=
onB v174 fun c176 =>
brQ (!c176) (fun kn177 : Loc → Hp → Prop =>
Q (.bool false) H175) (fun kn177 : Loc → Hp → Prop =>
kn177 (("table", u170) :: (("gate", u168) :: m162)) H175) fun m178 H179 =>
onO (lk "circuit" m178) fun v180 =>
rd_law_p7 m178 cl v180 H179 Q k164
noncomputable def rd_law_p9 (H163 : Hp) (v161 : V) (m162 : Loc) (cl : CallOp) (Q : V → Hp → Prop) (k164 : Loc → Hp → Prop) : Prop :=
unp H163 v161 2 fun us167 =>
cas1 us167 fun u168 us169 =>
cas1 us169 fun u170 us171 =>
cas0 us171 (onO (lk "counter" m162) fun v172 =>
onO (lk "rows" m162) fun v173 =>
cl 278 [v172, u168, u170, v173] H163 fun v174 H175 =>
rd_law_p8 v174 Q H175 u170 u168 m162 cl k164)
noncomputable def rd_law_p10 (cl : CallOp) (v207 : V) (v208 : V) (u203 : V) (v209 : V) (H198 : Hp) (u205 : V) (Q : V → Hp → Prop) (m197 : Loc) (k199 : Loc → Hp → Prop) : Prop :=
cl 271 [v207, v208, u203, v209] H198 fun v210 H211 =>
cmpV .NotEq v210 u205 H211 fun c212 =>
brQ c212 (fun kn213 : Loc → Hp → Prop =>
Q (.bool false) H211) (fun kn213 : Loc → Hp → Prop =>
kn213 (("table", u205) :: (("gate", u203) :: m197)) H211) fun m214 H215 =>
k199 m214 H215
noncomputable def rd_law_p11 (H198 : Hp) (v196 : V) (m197 : Loc) (cl : CallOp) (Q : V → Hp → Prop) (k199 : Loc → Hp → Prop) : Prop :=
unp H198 v196 2 fun us202 =>
cas1 us202 fun u203 us204 =>
cas1 us204 fun u205 us206 =>
cas0 us206 (onO (lk "circuit" m197) fun v207 =>
onO (lk "inputs" m197) fun v208 =>
onO (lk "rows" m197) fun v209 =>
rd_law_p10 cl v207 v208 u203 v209 H198 u205 Q m197 k199)
noncomputable def rd_law_p12 (H158 : Hp) (v157 : V) (cl : CallOp) (Q : V → Hp → Prop) (v142 : V) (m85 : Loc) : Prop :=
overV false H158 v157 fun xs159 ok160 =>
forL (fun v161 m162 H163 k164 =>
rd_law_p9 H163 v161 m162 cl Q k164) ok160 xs159 (("counter", v142) :: m85) H158 fun m165 H166 =>
onO (lk "some" m165) fun v193 =>
overV false H166 v193 fun xs194 ok195 =>
forL (fun v196 m197 H198 k199 =>
rd_law_p11 H198 v196 m197 cl Q k199) ok195 xs194 m165 H166 fun m200 H201 =>
Q (.bool true) H201
noncomputable def rd_law_p13 (m85 : Loc) (cl : CallOp) (H151 : Hp) (v145 : V) (v150 : V) (Q : V → Hp → Prop) (v142 : V) : Prop :=
onO (lk "feed" m85) fun v152 =>
onO (lk "some" m85) fun v153 =>
onO (lk "full" m85) fun v154 =>
cl 264 [v152, v153, v154] H151 fun v155 H156 =>
newO H156 (.list [v145, v150, v155]) fun v157 H158 =>
rd_law_p12 H158 v157 cl Q v142 m85
noncomputable def rd_law_p14 (H143 : Hp) (v144 : V) (m85 : Loc) (cl : CallOp) (Q : V → Hp → Prop) (v142 : V) : Prop :=
gSub H143 v144 (.int (-1)) fun v145 H146 =>
onO (lk "feed" m85) fun v147 =>
onO (lk "some" m85) fun v148 =>
onO (lk "full" m85) fun v149 =>
cl 264 [v147, v148, v149] H146 fun v150 H151 =>
rd_law_p13 m85 cl H151 v145 v150 Q v142
noncomputable def rd_law_p15 (H78 : Hp) (v77 : V) (cl : CallOp) (T : Tabs) (v71 : V) (v44 : V) (v40 : V) (v32 : V) (u17 : V) (u15 : V) (v1 : V) (a_script : V) (Q : V → Hp → Prop) : Prop :=
overV false H78 v77 fun xs79 ok80 =>
forL (fun v81 m82 H83 k84 =>
onO (lk "feed" m82) fun v87 =>
cl 231 [v87, (.int 6)] H83 fun v88 H89 =>
typV "range" [(.int 3)] H89 fun v90 H91 =>
rd_law_p5 H91 v90 v88 v81 m82 cl T k84) ok80 xs79 (("some", v71) :: (("full", v44) :: (("rows", v40) :: (("inputs", v32) :: (("some", u17) :: (("circuit", u15) :: (("feed", v1) :: (("script", a_script) :: [])))))))) H78 fun m85 H86 =>
onO (lk "circuit" m85) fun v140 =>
onO (lk "inputs" m85) fun v141 =>
newI cl 110 35 [v140, v141] H86 fun v142 H143 =>
onO (lk "some" m85) fun v144 =>
rd_law_p14 H143 v144 m85 cl Q v142
noncomputable def rd_law_p16 (H53 : Hp) (v52 : V) (v44 : V) (v40 : V) (v32 : V) (u17 : V) (u15 : V) (v1 : V) (a_script : V) (cl : CallOp) (v48 : V) (T : Tabs) (Q : V → Hp → Prop) : Prop :=
overV false H53 v52 fun xs54 ok55 => xs54.length < lim ∧
cmpL (fun v56 H57 qo58 =>
rd_law_p1 v44 v40 v32 u17 u15 v1 a_script H57 v56 cl qo58) ok55 xs54 [] H53 fun ys59 H60 =>
newO H60 (.list ys59) fun v61 H62 =>
binV .Add v48 v61 H62 fun v71 H72 =>
cl 231 [v1, (.int 4)] H72 fun v73 H74 =>
binV .Add (.int 2) v73 H74 fun v75 H76 =>
typV "range" [v75] H76 fun v77 H78 =>
rd_law_p15 H78 v77 cl T v71 v44 v40 v32 u17 u15 v1 a_script Q
noncomputable def rd_law_p17 (v42 : V) (H43 : Hp) (v32 : V) (v40 : V) (u17 : V) (u15 : V) (v1 : V) (a_script : V) (cl : CallOp) (T : Tabs) (Q : V → Hp → Prop) : Prop :=
binV .Sub v42 (.int 1) H43 fun v44 H45 =>
newO H45 (.tuple [(.int 1), v44]) fun v46 H47 =>
newO H47 (.list [v46]) fun v48 H49 =>
bltV "len" [v32] H49 fun v50 H51 =>
typV "range" [v50] H51 fun v52 H53 =>
rd_law_p16 H53 v52 v44 v40 v32 u17 u15 v1 a_script cl v48 T Q
noncomputable def rd_law_p18 (H24 : Hp) (v23 : V) (u17 : V) (u15 : V) (v1 : V) (a_script : V) (T : Tabs) (cl : CallOp) (Q : V → Hp → Prop) : Prop :=
overV false H24 v23 fun xs25 ok26 => xs25.length < lim ∧
cmpL (fun v27 H28 qo29 =>
onO (lk "circuit" (freeOf law_sc0 (("some", u17) :: (("circuit", u15) :: (("feed", v1) :: (("script", a_script) :: [])))))) fun v34 =>
onO (methOf T H28 v34 "new_input") fun mt35 =>
methV cl true mt35 v34 [] H28 fun v36 H37 =>
qo29 (some v36) H37) ok26 xs25 [] H24 fun ys30 H31 =>
newO H31 (.list ys30) fun v32 H33 =>
bltV "len" [v32] H33 fun v38 H39 =>
binV .Pow (.int 2) v38 H39 fun v40 H41 =>
binV .Pow (.int 2) v40 H41 fun v42 H43 =>
rd_law_p17 v42 H43 v32 v40 u17 u15 v1 a_script cl T Q
noncomputable def rd_law_p19 (H13 : Hp) (v12 : V) (cl : CallOp) (v1 : V) (a_script : V) (T : Tabs) (Q : V → Hp → Prop) : Prop :=
unp H13 v12 2 fun us14 =>
cas1 us14 fun u15 us16 =>
cas1 us16 fun u17 us18 =>
cas0 us18 (cl 231 [v1, (.int 4)] H13 fun v19 H20 =>
binV .Add (.int 1) v19 H20 fun v21 H22 =>
typV "range" [v21] H22 fun v23 H24 =>
rd_law_p18 H24 v23 u17 u15 v1 a_script T cl Q)
noncomputable def rd_law_p20 (v4 : V) (H5 : Hp) (cl : CallOp) (a_script : V) (T : Tabs) (Q : V → Hp → Prop) : Prop :=
typV "list" [v4] H5 fun v6 H7 =>
newO H7 (.dictS [("cells", v6), ("spot", (.int 0))]) fun v1 H2 =>
newI cl 220 128 [] H2 fun v8 H9 =>
newO H9 (.list []) fun v10 H11 =>
newO H11 (.tuple [v8, v10]) fun v12 H13 =>
rd_law_p19 H13 v12 cl v1 a_script T Q
noncomputable def rd_law (T : Tabs) (cl : CallOp) (a_script : V) (H : Hp) (Q : V → Hp → Prop) : Prop :=
onO (roOf T a_script) fun xi3 => xi3.length < lim ∧
newO H (.list ((xi3.map V.int).take (48 : Int).toNat)) fun v4 H5 =>
rd_law_p20 v4 H5 cl a_script T Q
theorem rd_law_eq (P : Params) (a : Addr) (l : List Int) (d : Nat) (a_script : V) (H : Hp) (Q : V → Hp → Prop) : callA (TT P a l) (d + 1) 283 [a_script] H Q = rd_law (TT P a l) (callA (TT P a l) d) a_script H Q := by kernel_rfl
end
end Mine
end
section
open PySem PySem.W PyProof.Rows
set_option maxRecDepth 100000
set_option linter.unusedVariables false
namespace Mine
/-! ## frames on abstract heaps -/
noncomputable def imm : O → Bool
  | .tuple _ => true
  | .inst .. => true
  | .range .. => true
  | _ => false
noncomputable def NoS : Nat → Prop := fun _ => False
structure Fr' (S : Nat → Prop) (H H' : Hp) : Prop where
  len : H.length ≤ H'.length
  get : ∀ j x, H[j]? = some x → (imm x = true ∨ ¬ S j) → H'[j]? = some x
structure Set1 (i : Nat) (o : O) (H H' : Hp) : Prop where
  len : H'.length = H.length
  at_ : H'[i]? = some o
  ne : ∀ j, j ≠ i → H'[j]? = H[j]?
variable {S S' : Nat → Prop} {H H0 H1 H2 H' : Hp} {Q : V → Hp → Prop}
theorem Fr'.refl : Fr' S H H := ⟨Nat.le_refl _, fun _ _ h _ => h⟩
theorem Fr'.trans (a : Fr' S H H1) (b : Fr' S H1 H2) : Fr' S H H2 := ⟨Nat.le_trans a.len b.len, fun j x h z => b.get j x (a.get j x h z) z⟩
theorem Fr'.mono (a : Fr' S H H1) (h : ∀ j, S j → S' j) : Fr' S' H H1 := ⟨a.len, fun j x e z => a.get j x e (z.imp id fun n q => n (h j q))⟩
theorem Fr'.no (a : Fr' NoS H H1) : Fr' S H H1 := a.mono fun _ z => z.elim
theorem lt_of_get {j : Nat} {x : O} (h : H[j]? = some x) : j < H.length := (List.getElem?_eq_some_iff.mp h).1
theorem Fr'.app (l : Hp) : Fr' S H (H ++ l) := ⟨by simp, fun j x h _ => by rw [List.getElem?_append_left (lt_of_get h)]; exact h⟩
theorem Set1.of {i : Nat} {o x : O} (h : H[i]? = some x) : Set1 i o H (H.set i o) := ⟨by simp, by rw [List.getElem?_set, if_pos rfl, if_pos (lt_of_get h)], fun j hj => by rw [List.getElem?_set, if_neg (Ne.symm hj)]⟩
theorem Fr'.set1 (a : Fr' S H0 H) {i : Nat} {o x : O} (s : Set1 i o H H') (hx : H[i]? = some x) (hi : imm x = false) (hS : S i ∨ H0.length ≤ i) : Fr' S H0 H' :=
  ⟨by rw [s.len]; exact a.len, fun j y e z => by
    have e1 := a.get j y e z
    by_cases q : j = i
    · subst q
      rw [hx] at e1; cases e1
      rcases hS with hS | hS
      · rcases z with z | z
        · rw [hi] at z; cases z
        · exact absurd hS z
      · exact absurd (lt_of_get e) (Nat.not_lt.mpr hS)
    · rw [s.ne j q]; exact e1⟩
theorem Set1.get {i j : Nat} {o x : O} (s : Set1 i o H H') (h : H[j]? = some x) (hj : j ≠ i) : H'[j]? = some x := by rw [s.ne j hj]; exact h

/-! ## rules -/
theorem onO_ok {α : Type} {o : Option α} {a : α} {Q : α → Prop} (h : o = some a) (q : Q a) : onO o Q := by rw [h]; exact q
theorem newO_ok {o : O} (h : ∀ H', Fr' NoS H H' → H'.length = H.length + 1 → H'[H.length]? = some o → Q (.ref H.length) H') : newO H o Q :=
  h _ (Fr'.app _) (by (first | exact List.length_append | simp)) (by (first | exact List.getElem?_concat_length .. | simp))
theorem newDI_ok (h : ∀ H', Fr' NoS H H' → H'.length = H.length + 1 → H'[H.length]? = some (.dictI []) → Q (.ref H.length) H') : newDict H Q := .inl (newO_ok h)
theorem newDT_ok (h : ∀ H', Fr' NoS H H' → H'.length = H.length + 1 → H'[H.length]? = some (.dictT []) → Q (.ref H.length) H') : newDict H Q := .inr (newO_ok h)
theorem sSubI_ok {i : Nat} {kvs : List (Int × V)} {k : Int} {v : V} {Q : Hp → Prop} (hi : H[i]? = some (.dictI kvs)) (hl : kvs.length < lim) (q : ∀ H', Set1 i (.dictI (put k v kvs)) H H' → Q H') : sSub H (.ref i) (.int k) v Q := by
  unfold sSub; simp only [hi]; exact ⟨hl, q _ (Set1.of hi)⟩
theorem sSubS_ok {i : Nat} {kvs : List (Str × V)} {k : Str} {v : V} {Q : Hp → Prop} (hi : H[i]? = some (.dictS kvs)) (hl : kvs.length < lim) (q : ∀ H', Set1 i (.dictS (put k v kvs)) H H' → Q H') : sSub H (.ref i) (.str k) v Q := by
  unfold sSub; simp only [hi]; exact ⟨hl, q _ (Set1.of hi)⟩
theorem sSubT_ok {i : Nat} {kvs : List (List Int × V)} {k v : V} {t : List Int} {Q : Hp → Prop} (hi : H[i]? = some (.dictT kvs)) (ht : tupKey H k = some t) (hn : look t kvs = .none) (hl : kvs.length < lim) (q : ∀ H', Set1 i (.dictT (put t v kvs)) H H' → Q H') : sSub H (.ref i) k v Q := by
  unfold sSub; simp only [hi, ht, onO]; exact ⟨hn, hl, q _ (Set1.of hi)⟩
theorem sAttr_ok {T : Tabs} {i d : Nat} {C : Addr} {n : Str} {v : V} {kvs : List (Str × V)} {Q : Hp → Prop} (hi : H[i]? = some (.inst C d)) (hd : H[d]? = some (.attrs kvs)) (hc : T.attr.contains (C, n) = true) (hl : kvs.length < 100) (hp : plainV v = true)
    (q : ∀ H', Set1 d (.attrs (put n v kvs)) H H' → Q H') : sAttr T H (.ref i) n v Q := by
  unfold sAttr; simp only [hi, hd]; exact ⟨hc, hl, hp, q _ (Set1.of hd)⟩
theorem gAttr_ok {T : Tabs} {i d : Nat} {C : Addr} {n : Str} {v : V} {kvs : List (Str × V)} (hi : H[i]? = some (.inst C d)) (hd : H[d]? = some (.attrs kvs)) (hc : T.attr.contains (C, n) = true) (hl : look n kvs = some v) (hp : plainV v = true) (q : Q v H) : gAttr T H (.ref i) n Q := by
  unfold gAttr attrOf; simp only [hi, hd, hc, hl, if_true, onO]; exact ⟨hp, q⟩
theorem app_ok {cl : CallOp} {up : Bool} {i : Nat} {xs : List V} {v : V} (hi : H[i]? = some (.list xs)) (hl : xs.length < lim) (q : ∀ H', Set1 i (.list (xs ++ [v])) H H' → Q .none H') : methV cl up .app (.ref i) [v] H Q := by
  unfold methV appV seqOf; simp only [hi, onO]; exact ⟨hl, q _ (Set1.of hi)⟩
theorem pop_ok {cl : CallOp} {up : Bool} {i : Nat} {xs : List V} {v : V} (hi : H[i]? = some (.list (xs ++ [v]))) (hl : xs.length + 1 < lim) (q : ∀ H', Set1 i (.list xs) H H' → Q v H') : methV cl up .pop (.ref i) [] H Q := by
  unfold methV popV seqOf; simp only [hi, onO, List.getLast?_append, List.getLast?_singleton, Option.some_or, List.dropLast_concat, List.length_append, List.length_singleton]
  exact ⟨hl, q _ (Set1.of hi)⟩
theorem ext_ok {cl : CallOp} {up : Bool} {i j : Nat} {xs ys : List V} (hi : H[i]? = some (.list xs)) (hj : H[j]? = some (.list ys)) (hl : xs.length + ys.length < lim) (q : ∀ H', Set1 i (.list (xs ++ ys)) H H' → Q .none H') : methV cl up .ext (.ref i) [.ref j] H Q := by
  unfold methV extV seqOf; simp only [hi, hj, onO]; exact ⟨hl, q _ (Set1.of hi)⟩
theorem get_ok {cl : CallOp} {up : Bool} {i : Nat} {kvs : List (Int × V)} {k : Int} {d : V} (hi : H[i]? = some (.dictI kvs)) (q : Q ((look k kvs).getD d) H) : methV cl up .get (.ref i) [.int k, d] H Q := by
  unfold methV getV; simp only [hi, onO]; exact q
theorem upd_ok {cl : CallOp} {i j : Nat} {kvs lvs : List (Int × V)} (hi : H[i]? = some (.dictI kvs)) (hj : H[j]? = some (.dictI lvs)) (hne : i ≠ j) (hl : kvs.length + lvs.length < lim) (q : ∀ H', Set1 i (.dictI (putAll kvs lvs)) H H' → Q .none H') : methV cl true .upd (.ref i) [.ref j] H Q := by
  show brB true (updV (.ref i) [.ref j] H Q) False
  show updV (.ref i) [.ref j] H Q
  unfold updV; simp only [hi, hj, onO]; exact ⟨hne, hl, q _ (Set1.of hi)⟩
theorem mt_app {T : Tabs} {i : Nat} {xs : List V} (hi : H[i]? = some (.list xs)) : methOf T H (.ref i) "append" = some .app := by
  unfold methOf; simp only [hi]; rfl
theorem mt_pop {T : Tabs} {i : Nat} {xs : List V} (hi : H[i]? = some (.list xs)) : methOf T H (.ref i) "pop" = some .pop := by
  unfold methOf; simp only [hi]; rfl
theorem mt_ext {T : Tabs} {i : Nat} {xs : List V} (hi : H[i]? = some (.list xs)) : methOf T H (.ref i) "extend" = some .ext := by
  unfold methOf; simp only [hi]; rfl
theorem mt_get {T : Tabs} {i : Nat} {kvs : List (Int × V)} (hi : H[i]? = some (.dictI kvs)) : methOf T H (.ref i) "get" = some .get := by
  unfold methOf; simp only [hi]; rfl
theorem mt_upd {T : Tabs} {i : Nat} {kvs : List (Int × V)} (hi : H[i]? = some (.dictI kvs)) : methOf T H (.ref i) "update" = some .upd := by
  unfold methOf; simp only [hi]; rfl
theorem mt_fn {T : Tabs} {i d : Nat} {C : Addr} {n : Str} {kvs : List (Str × V)} (hi : H[i]? = some (.inst C d)) (hd : H[d]? = some (.attrs kvs)) (hl : (look n kvs).isNone = true) {t : Addr × Str × Addr} (hf : (T.meth.find? fun t => t.1 == C && t.2.1 == n) = some t) : methOf T H (.ref i) n = some (.fn t.2.2) := by
  unfold methOf; simp only [hi, hd, hl, if_true, hf]
theorem sub_list {i : Nat} {xs : List V} {k : Nat} {v : V} (hi : H[i]? = some (.list xs)) (hv : xs[k]? = some v) (hk : k < 2 ^ 40) (q : Q v H) : gSub H (.ref i) (.int (k : Int)) Q := by
  unfold gSub subOf itemOf
  simp only [hi]
  rw [if_pos (by (first | exact Int.natCast_nonneg _ | lia)), if_pos (by lia)]
  simp only [Int.toNat_natCast, hv]; exact q
theorem sub_tup {i : Nat} {xs : List V} {k : Nat} {v : V} (hi : H[i]? = some (.tuple xs)) (hv : xs[k]? = some v) (hk : k < 2 ^ 40) (q : Q v H) : gSub H (.ref i) (.int (k : Int)) Q := by
  unfold gSub subOf itemOf
  simp only [hi]
  rw [if_pos (by (first | exact Int.natCast_nonneg _ | lia)), if_pos (by (first | exact Int.natCast_nonneg _ | lia)), if_pos (by lia)]
  simp only [Int.toNat_natCast, hv]; exact q
theorem sub_last {i : Nat} {xs : List V} {v : V} (hi : H[i]? = some (.list (xs ++ [v]))) (q : Q v H) : gSub H (.ref i) (.int (-1)) Q := by
  unfold gSub subOf itemOf
  simp only [hi]
  rw [if_neg (by (first | decide | lia))]
  simp only [if_true, List.getLast?_append, List.getLast?_singleton, Option.some_or]; exact q
theorem sub_I {i : Nat} {kvs : List (Int × V)} {k : Int} {v : V} (hi : H[i]? = some (.dictI kvs)) (hv : look k kvs = some v) (q : Q v H) : gSub H (.ref i) (.int k) Q := by
  unfold gSub subOf; simp only [hi, hv]; exact q
theorem sub_S {i : Nat} {kvs : List (Str × V)} {k : Str} {v : V} (hi : H[i]? = some (.dictS kvs)) (hv : look k kvs = some v) (q : Q v H) : gSub H (.ref i) (.str k) Q := by
  unfold gSub subOf; simp only [hi, hv]; exact q
theorem sub_T {i : Nat} {kvs : List (List Int × V)} {k : V} {t : List Int} {v : V} (hi : H[i]? = some (.dictT kvs)) (ht : tupKey H k = some t) (hv : look t kvs = some v) (q : Q v H) : gSub H (.ref i) k Q := by
  unfold gSub subOf; simp only [hi, ht, hv]; exact q
theorem len_ok {i : Nat} {o : O} {n : Nat} (hi : H[i]? = some o) (hn : lenOf o = some n) (hl : n < lim) (q : Q (.int n) H) : bltV "len" [.ref i] H Q := by
  unfold bltV; simp only [hi, onO, if_true, hn]; exact ⟨hl, q⟩
theorem abs_ok {i : Int} (q : Q (.int (i.natAbs : Int)) H) : bltV "abs" [.int i] H Q := by
  unfold bltV; simp only [if_true]; exact q
theorem sorted_ok {i : Nat} {kvs : List (Int × V)} (hi : H[i]? = some (.dictI kvs)) (hl : kvs.length < 64) (q : ∀ l : List Int, l.Perm (kvs.map (·.1)) → l.Pairwise (· ≤ ·) → newO H (.list (l.map V.int)) Q) : bltV "sorted" [.ref i] H Q := by
  unfold bltV; simp only [hi, onO, if_true, show ("sorted" : String) ≠ "len" by decide, if_false]; exact ⟨hl, q⟩
theorem sum_ok {i : Nat} {l : List Int} (hi : H[i]? = some (.list (l.map V.int))) (hl : ints? (l.map V.int) = some l) (q : Q (.int l.sum) H) : bltV "sum" [.ref i] H Q := by
  unfold bltV; simp only [hi, onO, if_true, show ("sum" : String) ≠ "len" by decide, show ("sum" : String) ≠ "sorted" by decide, if_false, seqOf, hl]; exact q
theorem ints_map : ∀ l : List Int, ints? (l.map V.int) = some l
  | [] => rfl
  | a :: l => by simp only [List.map_cons, ints?, ints_map l]
theorem tup_ok {i : Nat} {xs : List V} (hi : H[i]? = some (.list xs)) (hl : xs.length < lim) (q : newO H (.tuple xs) Q) : typV "tuple" [.ref i] H Q := by
  unfold typV; simp only [if_true, seqOf, hi, onO]; exact ⟨hl, q⟩
theorem lst_ok {i : Nat} {xs : List V} (hi : H[i]? = some (.list xs)) (hl : xs.length < lim) (q : newO H (.list xs) Q) : typV "list" [.ref i] H Q := by
  unfold typV; simp only [if_true, seqOf, hi, onO, show ("list" : String) ≠ "tuple" by decide, if_false]; exact ⟨hl, q⟩
theorem dct_ok {i : Nat} {kvs : List (Int × V)} (hi : H[i]? = some (.dictI kvs)) (hl : kvs.length < lim) (q : newO H (.dictI kvs) Q) : typV "dict" [.ref i] H Q := by
  unfold typV; simp only [if_true, hi, onO, show ("dict" : String) ≠ "tuple" by decide, show ("dict" : String) ≠ "list" by decide, if_false]; exact ⟨hl, q⟩
theorem rng_ok {i : Int} (h : smallI i) (q : newO H (.range 0 i) Q) : typV "range" [.int i] H Q := by
  unfold typV; simp only [if_true, show ("range" : String) ≠ "int" by decide, if_false]; exact ⟨h, q⟩
theorem rng2_ok {i j : Int} (h : smallI i) (h' : smallI j) (q : newO H (.range i j) Q) : typV "range" [.int i, .int j] H Q := by
  unfold typV; simp only [if_true]; exact ⟨h, h', q⟩
theorem over_list {b : Bool} {i : Nat} {xs : List V} {Q : List V → (Hp → Prop) → Prop} (hi : H[i]? = some (.list xs)) (q : Q xs fun H' => H'[i]? = some (.list xs)) : overV b H (.ref i) Q := by
  unfold overV; simp only [hi, onO]; cases b <;> exact q
theorem over_tup {b : Bool} {i : Nat} {xs : List V} {Q : List V → (Hp → Prop) → Prop} (hi : H[i]? = some (.tuple xs)) (q : Q xs fun H' => H'[i]? = some (.tuple xs)) : overV b H (.ref i) Q := by
  unfold overV; simp only [hi, onO]; cases b <;> exact q
theorem over_rng {b : Bool} {i : Nat} {u v : Int} {Q : List V → (Hp → Prop) → Prop} (hi : H[i]? = some (.range u v)) (q : Q ((List.range (v - u).toNat).map fun (i : Nat) => V.int (u + (i : Int))) fun H' => H'[i]? = some (.range u v)) : overV b H (.ref i) Q := by
  unfold overV; simp only [hi, onO]; cases b <;> exact q
theorem over_dict {i : Nat} {kvs : List (Int × V)} {Q : List V → (Hp → Prop) → Prop} (hi : H[i]? = some (.dictI kvs)) (q : Q (kvs.map fun p => .int p.1) fun H' => H'[i]? = some (.dictI kvs)) : overV true H (.ref i) Q := by
  unfold overV; simp only [hi, onO]; exact q
theorem bindN_ok {i : Nat} {vs : List V} {xs : List Str} {m : Loc} {Q : Loc → Prop} (hi : H[i]? = some (.tuple vs)) (hl : vs.length = xs.length) (q : Q ((xs.zip vs).reverse ++ m)) : bindN H xs (.ref i) m Q := by
  unfold bindN; simp only [hi, onO]; exact ⟨hl, q⟩
theorem unp_tup {i n : Nat} {vs : List V} {Q : List V → Prop} (hi : H[i]? = some (.tuple vs)) (hl : vs.length = n) (q : Q vs) : unp H (.ref i) n Q := by
  unfold unp; simp only [hi, onO]; exact ⟨hl, q⟩
theorem unp_list {i n : Nat} {vs : List V} {Q : List V → Prop} (hi : H[i]? = some (.list vs)) (hl : vs.length = n) (q : Q vs) : unp H (.ref i) n Q := by
  unfold unp; simp only [hi, onO]; exact ⟨hl, q⟩
/-- loops -/
theorem forL_ok {body : V → Loc → Hp → (Loc → Hp → Prop) → Prop} {ok : Hp → Prop} {kn : Loc → Hp → Prop} (I : List V → Loc → Hp → Prop) (step : ∀ v rest m H (k : Loc → Hp → Prop), I (v :: rest) m H → (∀ m' H', I rest m' H' → ok H' ∧ k m' H') → body v m H fun m' H' => ok H' ∧ k m' H')
    (fin : ∀ m H, I [] m H → kn m H) : ∀ (xs : List V) (m : Loc) (H : Hp), I xs m H → (∀ rest m' H', I rest m' H' → ok H') → forL body ok xs m H kn
  | [], m, H, h, _ => fin m H h
  | v :: vs, m, H, h, hok => step v vs m H _ h fun m' H' h' => ⟨hok _ _ _ h', forL_ok I step fin vs m' H' h' hok⟩
theorem cmpL_ok {turn : V → Hp → (Option V → Hp → Prop) → Prop} {ok : Hp → Prop} {Q : List V → Hp → Prop} (I : List V → List V → Hp → Prop) (step : ∀ v rest acc H (k : Option V → Hp → Prop), I (v :: rest) acc H → (∀ w H', I rest (match w with | some x => acc ++ [x] | .none => acc) H' → ok H' ∧ k w H') → turn v H fun w H' => ok H' ∧ k w H')
    (fin : ∀ acc H, I [] acc H → Q acc H) : ∀ (xs acc : List V) (H : Hp), I xs acc H → (∀ rest acc H', I rest acc H' → ok H') → cmpL turn ok xs acc H Q
  | [], acc, H, h, _ => fin acc H h
  | v :: vs, acc, H, h, hok => step v vs acc H _ h fun w H' h' => ⟨hok _ _ _ h', cmpL_ok I step fin vs _ H' h' hok⟩
/-- a list gathered by turns that leave the heap as it is -/
theorem cmpL_map {turn : V → Hp → (Option V → Hp → Prop) → Prop} {ok : Hp → Prop} {Q : List V → Hp → Prop} {f : V → V} {xs : List V} (hok : ok H) (step : ∀ v ∈ xs, ∀ k, k (some (f v)) H → turn v H k) (fin : Q (xs.map f) H) : cmpL turn ok xs [] H Q := by
  have : ∀ (ys acc : List V), (∀ v ∈ ys, v ∈ xs) → xs.map f = acc ++ ys.map f → cmpL turn ok ys acc H Q := by
    intro ys
    induction ys with
    | nil => intro acc _ e; rw [List.map_nil, List.append_nil] at e; rw [e] at fin; exact fin
    | cons v r ih =>
      intro acc hm e
      refine step v (hm v (List.mem_cons_self ..)) _ ⟨hok, ih _ (fun u hu => hm u (List.mem_cons_of_mem _ hu)) ?_⟩
      rw [e]; simp
  exact this xs [] (fun _ h => h) (by (first | rfl | simp))
end Mine
end
section
open PySem PySem.W PyProof.Rows
set_option maxRecDepth 100000
set_option linter.unusedVariables false
namespace Mine
/-! ## dicts -/
section
variable {κ : Type} [DecidableEq κ]
theorem look_put (k k' : κ) (v : V) : ∀ kvs : List (κ × V), look k' (put k v kvs) = if k' = k then some v else look k' kvs
  | [] => by simp only [put, look]; by_cases h : k = k' <;> simp [h, eq_comm]
  | p :: r => by
    unfold put
    by_cases h : p.1 = k
    · rw [if_pos h]
      simp only [look]
      by_cases h2 : k' = k
      · subst h2; simp
      · rw [if_neg (fun e => h2 e.symm), if_neg h2, if_neg (fun e => h2 (e.symm.trans h))]
    · rw [if_neg h]
      simp only [look]
      by_cases h3 : p.1 = k'
      · rw [if_pos h3, if_pos h3, if_neg (fun e => h (h3.trans e))]
      · rw [if_neg h3, if_neg h3, look_put k k' v r]
theorem look_key {k : κ} {kvs : List (κ × V)} : k ∈ kvs.map (·.1) ↔ ∃ v, look k kvs = some v := by
  induction kvs with
  | nil => simp [look]
  | cons p r ih =>
    simp only [List.map_cons, List.mem_cons, look]
    by_cases e : p.1 = k
    · simp [e]
    · rw [if_neg e, ih]; simp [Ne.symm e]
theorem look_none {k : κ} {kvs : List (κ × V)} : look k kvs = .none ↔ k ∉ kvs.map (·.1) := by
  rw [look_key]
  cases h : look k kvs with
  | none => simp
  | some v => simp
theorem put_keys {k : κ} {v : V} {kvs : List (κ × V)} {x : κ} : x ∈ (put k v kvs).map (·.1) ↔ x = k ∨ x ∈ kvs.map (·.1) := by
  rw [look_key, look_key, look_put]
  by_cases h : x = k <;> simp [h]
theorem put_len (k : κ) (v : V) : ∀ kvs : List (κ × V), (put k v kvs).length ≤ kvs.length + 1
  | [] => by simp [put]
  | p :: r => by
    unfold put
    split
    · simp
    · have := put_len k v r; simp; (first | assumption | lia)
theorem put_nodup {k : κ} {v : V} : ∀ {kvs : List (κ × V)}, (kvs.map (·.1)).Nodup → ((put k v kvs).map (·.1)).Nodup
  | [], _ => by simp [put]
  | p :: r, h => by
    rw [List.map_cons, List.nodup_cons] at h
    unfold put
    split
    · rename_i e
      rw [List.map_cons, List.nodup_cons]; rw [e] at h; exact h
    · rename_i e
      rw [List.map_cons, List.nodup_cons]
      refine ⟨fun z => ?_, put_nodup h.2⟩
      rcases put_keys.mp z with z | z
      · exact e z
      · exact h.1 z
end
theorem putAll_keys {x : Int} : ∀ {lvs kvs : List (Int × V)}, x ∈ (putAll kvs lvs).map (·.1) ↔ x ∈ kvs.map (·.1) ∨ x ∈ lvs.map (·.1)
  | [], kvs => by simp [putAll]
  | p :: r, kvs => by
    unfold putAll
    rw [putAll_keys, put_keys]
    simp only [List.map_cons, List.mem_cons]
    constructor
    · rintro ((h | h) | h)
      · exact .inr (.inl h)
      · exact .inl h
      · exact .inr (.inr h)
    · rintro (h | h | h)
      · exact .inl (.inr h)
      · exact .inl (.inl h)
      · exact .inr h
theorem putAll_nodup : ∀ {lvs kvs : List (Int × V)}, (kvs.map (·.1)).Nodup → ((putAll kvs lvs).map (·.1)).Nodup
  | [], _, h => h
  | p :: r, kvs, h => putAll_nodup (kvs := put p.1 p.2 kvs) (put_nodup h)

/-! ## the circuit in the heap -/
structure CircAt (H : Hp) (C : Ck) : Prop where
  inst : H[4]? = some (.inst 220 3)
  attrs : H[3]? = some (.attrs [("kinds", .ref 5), ("parts_now", .ref 8), ("known", .ref 9)])
  kinds : H[5]? = some (.list (C.map fun g => .str (kindS g)))
  parts : ∃ ts : List Nat, H[8]? = some (.list (ts.map V.ref)) ∧ ts.length = C.length ∧ ∀ (i t : Nat) (g : Gt), ts[i]? = some t → C[i]? = some g → H[t]? = some (.tuple ((partsG g).map V.int))
  known : ∃ kvs, H[9]? = some (.dictT kvs) ∧ kvs.length ≤ C.length ∧ ∀ k v, look k kvs = some v → ∃ i : Nat, v = .int (i : Int) ∧ C[i]? = some (.and k)
  small : C.length < lim
noncomputable def SC : Nat → Prop := fun j => j = 5 ∨ j = 8 ∨ j = 9
theorem nSC {j : Nat} (h : 10 ≤ j) : ¬ SC j := by rintro (rfl | rfl | rfl) <;> exact absurd h (by decide)
theorem CircAt.fr {S : Nat → Prop} {H H' : Hp} {C : Ck} (A : CircAt H C) (F : Fr' S H H') (h3 : ¬ S 3) (h5 : ¬ S 5) (h8 : ¬ S 8) (h9 : ¬ S 9) : CircAt H' C := by
  obtain ⟨ts, p1, p2, p3⟩ := A.parts
  obtain ⟨kvs, k1, k2⟩ := A.known
  exact ⟨F.get _ _ A.inst (.inl rfl), F.get _ _ A.attrs (.inr h3), F.get _ _ A.kinds (.inr h5), ⟨ts, F.get _ _ p1 (.inr h8), p2, fun i t g a b => F.get _ _ (p3 i t g a b) (.inl rfl)⟩, ⟨kvs, F.get _ _ k1 (.inr h9), k2⟩, A.small⟩
theorem CircAt.no {H H' : Hp} {C : Ck} (A : CircAt H C) (F : Fr' NoS H H') : CircAt H' C := A.fr F (fun z => z) (fun z => z) (fun z => z) (fun z => z)
theorem CircAt.hi {H : Hp} {C : Ck} (A : CircAt H C) : 10 ≤ H.length := by
  obtain ⟨kvs, k1, k2⟩ := A.known
  exact lt_of_get k1
section
variable {P : Params} {a : Addr} {l : List Int} {d : Nat} {H : Hp} {C : Ck} {Q : V → Hp → Prop}
theorem lt_of_get' {α : Type} {L : List α} {j : Nat} {x : α} (h : L[j]? = some x) : j < L.length := (List.getElem?_eq_some_iff.mp h).1
theorem g_kinds (A : CircAt H C) (q : Q (.ref 5) H) : gAttr (TT P a l) H (.ref 4) "kinds" Q := gAttr_ok A.inst A.attrs (by kernel_rfl) (by rfl) rfl q
theorem g_parts (A : CircAt H C) (q : Q (.ref 8) H) : gAttr (TT P a l) H (.ref 4) "parts_now" Q := gAttr_ok A.inst A.attrs (by kernel_rfl) (by rfl) rfl q
theorem g_known (A : CircAt H C) (q : Q (.ref 9) H) : gAttr (TT P a l) H (.ref 4) "known" Q := gAttr_ok A.inst A.attrs (by kernel_rfl) (by rfl) rfl q
theorem m_kind (A : CircAt H C) : methOf (TT P a l) H (.ref 4) "kind" = some (.fn 142) := mt_fn A.inst A.attrs (by rfl) (t := (220, "kind", 142)) (by kernel_rfl)
theorem m_parts (A : CircAt H C) : methOf (TT P a l) H (.ref 4) "parts" = some (.fn 149) := mt_fn A.inst A.attrs (by rfl) (t := (220, "parts", 149)) (by kernel_rfl)
theorem m_new_gate (A : CircAt H C) : methOf (TT P a l) H (.ref 4) "new_gate" = some (.fn 156) := mt_fn A.inst A.attrs (by rfl) (t := (220, "new_gate", 156)) (by kernel_rfl)
theorem m_new_input (A : CircAt H C) : methOf (TT P a l) H (.ref 4) "new_input" = some (.fn 163) := mt_fn A.inst A.attrs (by rfl) (t := (220, "new_input", 163)) (by kernel_rfl)
theorem m_all_of (A : CircAt H C) : methOf (TT P a l) H (.ref 4) "all_of" = some (.fn 170) := mt_fn A.inst A.attrs (by rfl) (t := (220, "all_of", 170)) (by kernel_rfl)
theorem m_any_of (A : CircAt H C) : methOf (TT P a l) H (.ref 4) "any_of" = some (.fn 175) := mt_fn A.inst A.attrs (by rfl) (t := (220, "any_of", 175)) (by kernel_rfl)
theorem m_implies (A : CircAt H C) : methOf (TT P a l) H (.ref 4) "implies" = some (.fn 196) := mt_fn A.inst A.attrs (by rfl) (t := (220, "implies", 196)) (by kernel_rfl)
theorem m_iff (A : CircAt H C) : methOf (TT P a l) H (.ref 4) "iff" = some (.fn 203) := mt_fn A.inst A.attrs (by rfl) (t := (220, "iff", 203)) (by kernel_rfl)
theorem m_unlike (A : CircAt H C) : methOf (TT P a l) H (.ref 4) "unlike" = some (.fn 210) := mt_fn A.inst A.attrs (by rfl) (t := (220, "unlike", 210)) (by kernel_rfl)
theorem m_choose (A : CircAt H C) : methOf (TT P a l) H (.ref 4) "choose" = some (.fn 217) := mt_fn A.inst A.attrs (by rfl) (t := (220, "choose", 217)) (by kernel_rfl)
theorem lim40 {n : Nat} (h : n < lim) : n < 2 ^ 40 := Nat.lt_trans h (by decide)
theorem c_kind_ok {g : Int} {x : Gt} (A : CircAt H C) (hx : C[g.natAbs]? = some x) (q : Q (.str (kindS x)) H) : callA (TT P a l) (d + 1) 142 [.ref 4, .int g] H Q := by
  rw [rd_c_kind_eq]
  unfold rd_c_kind
  refine g_kinds A (abs_ok (sub_list A.kinds (v := .str (kindS x)) (by rw [List.getElem?_map, hx]; rfl) (lim40 (Nat.lt_trans (lt_of_get' hx) A.small)) q))
theorem c_parts_ok {g : Int} {x : Gt} (A : CircAt H C) (hx : C[g.natAbs]? = some x) (q : ∀ t : Nat, H[t]? = some (.tuple ((partsG x).map V.int)) → Q (.ref t) H) : callA (TT P a l) (d + 1) 149 [.ref 4, .int g] H Q := by
  rw [rd_c_parts_eq]
  unfold rd_c_parts
  obtain ⟨ts, p1, p2, p3⟩ := A.parts
  have hlt := lt_of_get' hx
  have e : ts[g.natAbs]? = some ts[g.natAbs] := List.getElem?_eq_getElem (by omega)
  refine g_parts A (abs_ok (sub_list p1 (v := .ref ts[g.natAbs]) (by rw [List.getElem?_map, e]; rfl) (lim40 (Nat.lt_trans hlt A.small)) (q _ (p3 _ _ _ e hx))))
end
section
variable {H : Hp} {Q : V → Hp → Prop} {R : Bool → Prop} {x y : Int}
theorem add_ok (q : Q (.int (x + y)) H) : binV .Add (.int x) (.int y) H Q := q
theorem sub_ok' (q : Q (.int (x - y)) H) : binV .Sub (.int x) (.int y) H Q := q
theorem mul_ok (h1 : smallI x) (h2 : smallI y) (q : Q (.int (x * y)) H) : binV .Mult (.int x) (.int y) H Q := ⟨h1, h2, q⟩
theorem mod_ok (h : 0 < y) (q : Q (.int (Int.fmod x y)) H) : binV .Mod (.int x) (.int y) H Q := ⟨h, q⟩
theorem div_ok (h : 0 < y) (h2 : y ≤ 1048576) (q : Q (.int (Int.fdiv x y)) H) : binV .FloorDiv (.int x) (.int y) H Q := ⟨h, h2, q⟩
theorem pow_ok (h : 0 ≤ y) (h2 : y ≤ 40) (q : Q (.int (2 ^ y.toNat)) H) : binV .Pow (.int 2) (.int y) H Q := ⟨rfl, h, h2, q⟩
theorem shl_ok (h0 : smallI x) (h : 0 ≤ y) (h2 : y ≤ 40) (q : Q (.int (x * 2 ^ y.toNat)) H) : binV .LShift (.int x) (.int y) H Q := ⟨h0, h, h2, q⟩
theorem band_ok (q : Q (.int (Builtin.bitAnd x y)) H) : binV .BitAnd (.int x) (.int y) H Q := q
theorem bor_ok (q : Q (.int (Builtin.bitOr x y)) H) : binV .BitOr (.int x) (.int y) H Q := q
theorem bxor_ok (q : Q (.int (Builtin.bitXor x y)) H) : binV .BitXor (.int x) (.int y) H Q := q
theorem cat_ok {i j : Nat} {xs ys : List V} (hi : H[i]? = some (.list xs)) (hj : H[j]? = some (.list ys)) (hl : xs.length + ys.length < lim) (q : newO H (.list (xs ++ ys)) Q) : binV .Add (.ref i) (.ref j) H Q := by
  unfold binV; simp only [seqOf, hi, hj, onO]; exact ⟨hl, q⟩
theorem eq_ok (q : R (x == y)) : cmpV .Eq (.int x) (.int y) H R := q
theorem ne_ok (q : R (x != y)) : cmpV .NotEq (.int x) (.int y) H R := q
theorem lt_ok (q : R (decide (x < y))) : cmpV .Lt (.int x) (.int y) H R := q
theorem gt_ok (q : R (decide (y < x))) : cmpV .Gt (.int x) (.int y) H R := q
theorem eqS_ok {x y : Str} (q : R (x == y)) : cmpV .Eq (.str x) (.str y) H R := q
theorem neS_ok {x y : Str} (q : R (x != y)) : cmpV .NotEq (.str x) (.str y) H R := q
end
end Mine
end
section
open PySem PySem.W PyProof.Rows
set_option maxRecDepth 100000
set_option linter.unusedVariables false
set_option autoImplicit false
namespace Mine
section
variable {P : Params} {a : Addr} {l : List Int} {d : Nat} {H : Hp} {C : Ck} {Q : V → Hp → Prop}
theorem drp_none {p : Prop} (h : p) : drp .none p := h
theorem c_new_gate_ok {x : Gt} {t : Nat} (A : CircAt H C) (ht : H[t]? = some (.tuple ((partsG x).map V.int))) (hs : C.length + 1 < lim) (q : ∀ H', Fr' SC H H' → H'[9]? = H[9]? → CircAt H' (C ++ [x]) → Q (.int (C.length : Int)) H') :
    callA (TT P a l) (d + 1) 156 [.ref 4, .str (kindS x), .ref t] H Q := by
  rw [rd_c_new_gate_eq]
  unfold rd_c_new_gate
  refine g_kinds A (onO_ok (mt_app A.kinds) (app_ok A.kinds (by rw [List.length_map]; exact A.small) fun H1 s1 => drp_none ?_))
  have hA1 : H1[4]? = some (.inst 220 3) := s1.get A.inst (by decide)
  have hA2 := s1.get A.attrs (by decide)
  obtain ⟨ts, p1, p2, p3⟩ := A.parts
  obtain ⟨kvs, k1, k2, k3⟩ := A.known
  have hp1 := s1.get p1 (by decide)
  refine gAttr_ok hA1 hA2 (by kernel_rfl) (by rfl) rfl (onO_ok (mt_app hp1) (app_ok hp1 (by rw [List.length_map, p2]; exact A.small) fun H2 s2 => drp_none ?_))
  have hB1 := s2.get hA1 (by decide)
  have hB2 := s2.get hA2 (by decide)
  have hk2 := s2.get s1.at_ (by decide)
  have hl : (List.map (fun g => V.str (kindS g)) C ++ [V.str (kindS x)]).length = C.length + 1 := by simp
  refine gAttr_ok hB1 hB2 (by kernel_rfl) (by rfl) rfl (len_ok (n := C.length + 1) hk2 (by simp [lenOf]) hs ?_)
  refine sub_ok' ?_
  have e : (((C.length + 1 : Nat) : Int) - 1) = (C.length : Int) := by lia
  rw [e]
  have F : Fr' SC H H2 := (Fr'.refl.set1 s1 A.kinds rfl (.inl (.inl rfl))).set1 s2 hp1 rfl (.inl (.inr (.inl rfl)))
  refine q H2 F (by rw [s2.ne _ (by decide), s1.ne _ (by decide)]) ⟨hB1, hB2, ?_, ⟨ts ++ [t], ?_, by simp [p2], fun i t' g e1 e2 => ?_⟩, ⟨kvs, s2.get (s1.get k1 (by decide)) (by decide), by simp; (first | exact Nat.le_succ_of_le (by assumption) | lia), fun k v h => ?_⟩, by simpa using hs⟩
  · rw [hk2]; simp
  · rw [s2.at_]; simp
  · by_cases hi : i < C.length
    · rw [List.getElem?_append_left (by lia)] at e1
      rw [List.getElem?_append_left hi] at e2
      exact F.get _ _ (p3 _ _ _ e1 e2) (.inl rfl)
    · have hlt := lt_of_get' e2
      have : i = C.length := by simp at hlt; lia
      subst this
      rw [List.getElem?_append_right (by (first | exact Nat.le_refl _ | lia))] at e1 e2
      simp [p2] at e1 e2
      subst e1; subst e2
      exact F.get _ _ ht (.inl rfl)
  · obtain ⟨i, e1, e2⟩ := k3 k v h
    exact ⟨i, e1, get_ext ⟨_, rfl⟩ e2⟩
theorem c_new_input_ok (A : CircAt H C) (hs : C.length + 1 < lim) (q : ∀ H', Fr' SC H H' → CircAt H' (C ++ [.inp]) → Q (.int (C.length : Int)) H') : callA (TT P a l) (d + 2) 163 [.ref 4] H Q := by
  rw [rd_c_new_input_eq]
  unfold rd_c_new_input
  refine onO_ok (m_new_gate A) (newO_ok fun H1 F1 l1 e1 => ?_)
  exact c_new_gate_ok (x := .inp) (A.no F1) e1 hs fun H2 F2 l2 A2 => q H2 (F1.no.trans F2) A2

/-! ## all_of -/
noncomputable def SeqAt (H : Hp) (j : Nat) (xs : List V) : Prop := H[j]? = some (.list xs) ∨ H[j]? = some (.tuple xs)
theorem over_seq {b : Bool} {j : Nat} {xs : List V} {Q : List V → (Hp → Prop) → Prop} (hj : SeqAt H j xs) (q : ∀ o, H[j]? = some o → o = .list xs ∨ o = .tuple xs → Q xs fun H' => H'[j]? = some o) : overV b H (.ref j) Q := by
  rcases hj with hj | hj
  · exact over_list hj (q _ hj (.inl rfl))
  · exact over_tup hj (q _ hj (.inr rfl))
theorem brQ_ok {α β : Type} {c : Bool} {A B : (α → β → Prop) → Prop} {q : α → β → Prop} (h1 : c = true → A q) (h2 : c = false → B q) : brQ c A B q := by
  cases c with
  | true => exact h1 rfl
  | false => exact h2 rfl
theorem cmp_in {H : Hp} {i : Nat} {k : Int} {kvs : List (Int × V)} {Q : Bool → Prop} (hi : H[i]? = some (.dictI kvs)) (q : Q (look k kvs).isSome) : cmpV .In (.int k) (.ref i) H Q := by
  unfold cmpV hasOf; simp only [hi, onO]; exact q
theorem cmp_notin {H : Hp} {i : Nat} {k : Int} {kvs : List (Int × V)} {Q : Bool → Prop} (hi : H[i]? = some (.dictI kvs)) (q : Q (!(look k kvs).isSome)) : cmpV .NotIn (.int k) (.ref i) H Q := by
  unfold cmpV hasOf; simp only [hi, onO]; exact q
theorem cmp_notinT {H : Hp} {i : Nat} {k : V} {t : List Int} {kvs : List (List Int × V)} {Q : Bool → Prop} (hi : H[i]? = some (.dictT kvs)) (ht : tupKey H k = some t) (q : Q (!(look t kvs).isSome)) : cmpV .NotIn k (.ref i) H Q := by
  unfold cmpV hasOf; simp only [hi, ht, onO]; exact q
theorem tupKey_at {H : Hp} {j : Nat} {t : List Int} (h : H[j]? = some (.tuple (t.map V.int))) : tupKey H (.ref j) = some t := by
  unfold tupKey; simp only [h, ints_map]
theorem nodup_perm {α : Type} {l l' : List α} (h : l.Perm l') (n : l'.Nodup) : l.Nodup := h.nodup_iff.mpr n

structure AllI (H0 : Hp) (gs : List Int) (f j : Nat) (o : O) (done : List Int) (m : Loc) (H : Hp) : Prop where
  fr : Fr' NoS H0 H
  found : lk "found" m = some (.ref f)
  self : lk "self" m = some (.ref 4)
  src : H[j]? = some o
  dict : ∃ kvs, H[f]? = some (.dictI kvs) ∧ kvs.length ≤ done.length ∧ (kvs.map (·.1)).Nodup ∧ (∀ p, p ∈ kvs.map (·.1) ↔ p ∈ done ∧ p ≠ 1) ∧ -1 ∉ done ∧ ∀ p ∈ kvs.map (·.1), -p ∉ kvs.map (·.1)

theorem c_all_of_ok {n : Nat} {gs : List Int} {j : Nat} (A : CircAt H C) (W : WF n C) (hg : ∀ g ∈ gs, Vd C g) (hj : SeqAt H j (gs.map V.int)) (h3 : gs.length ≤ 3) (hs : C.length + 1 < lim)
    (q : ∀ r C' H', AllOf C gs r C' → CircAt H' C' → Fr' SC H H' → Q (.int r) H') : callA (TT P a l) (d + 2) 170 [.ref 4, .ref j] H Q := by
  rw [rd_c_all_of_eq]
  unfold rd_c_all_of
  refine newDI_ok fun H1 F1 l1 e1 => ?_
  have hj1 : SeqAt H1 j (gs.map V.int) := by
    rcases hj with hj | hj
    · exact .inl (F1.get _ _ hj (.inr fun z => z))
    · exact .inr (F1.get _ _ hj (.inr fun z => z))
  have hjf : j ≠ H.length := by
    rcases hj with hj | hj <;> (have := lt_of_get hj; (first | exact Nat.ne_of_lt (by assumption) | lia))
  refine over_seq hj1 fun o ho hoo => ?_
  refine forL_ok (fun rest m H' => ∃ done rs, rest = rs.map V.int ∧ gs = done ++ rs ∧ AllI H gs H.length j o done m H') ?_ ?_ _ _ _ ⟨[], gs, rfl, rfl, F1, rfl, rfl, ho, [], e1, by simp, by (first | exact List.nodup_nil | simp), by simp, by simp, by simp⟩ fun rest m' H' x => by obtain ⟨done, rs, _, _, x⟩ := x; exact x.src
  · rintro v rest m H2 k ⟨done, rs, e2, e3, x⟩ kk
    obtain ⟨g, rs, rfl, rfl, rfl⟩ := map_cons_inv e2
    obtain ⟨kvs, d1, d2, d3, d4, d5, d6⟩ := x.dict
    have hgm : g ∈ gs := by rw [e3]; simp
    have hgv := hg g hgm
    have hkv : ∀ p ∈ kvs.map (·.1), p ∈ gs := fun p hp => by rw [e3]; exact List.mem_append_left _ ((d4 p).mp hp).1
    refine eq_ok (brQ_ok (fun h1 => ?_) fun h1 => ?_)
    · have : g = -1 := by (first | exact eq_of_beq h1 | simpa using h1)
      subst this
      exact brQ_ok (fun _ => q (-1) C H2 (.inl ⟨rfl, rfl, .inl hgm⟩) (A.no x.fr) x.fr.no) nofun
    have hg1 : g ≠ -1 := by (first | exact of_decide_eq_false h1 | simpa using h1)
    refine onO_ok x.found (cmp_in d1 ?_)
    refine brQ_ok (fun h2 => ?_) fun h2 => ?_
    · have : -g ∈ kvs.map (·.1) := by
        rw [look_key]; exact Option.isSome_iff_exists.mp h2
      exact q (-1) C H2 (.inl ⟨rfl, rfl, .inr ⟨g, hgm, hkv _ this⟩⟩) (A.no x.fr) x.fr.no
    have hng : -g ∉ kvs.map (·.1) := by
      rw [look_key]
      rintro ⟨v, hv⟩
      rw [hv] at h2; cases h2
    refine onO_ok rfl (ne_ok ?_)
    have e4 : gs = (done ++ [g]) ++ rs := by rw [e3]; simp
    refine brQ_ok (fun h3 => ?_) fun h3 => ?_
    · have hg2 : g ≠ 1 := by (first | exact bne_iff_ne.mp h3 | simpa using h3)
      have hlim : kvs.length < lim := by
        have : done.length ≤ 3 := by have := congrArg List.length e3; rw [List.length_append] at this; lia
        have : lim = 1048576 := rfl
        lia
      refine onO_ok (show lk "found" (("g", V.int g) :: m) = _ from x.found) (onO_ok rfl (sSubI_ok d1 hlim fun H3 s3 => kk _ _ ⟨done ++ [g], rs, rfl, e4, ?_⟩))
      refine ⟨x.fr.set1 s3 d1 rfl (.inr (Nat.le_refl _)), x.found, x.self, s3.get x.src hjf, _, s3.at_, ?_, put_nodup d3, fun p => ?_, ?_, fun p hp => ?_⟩
      · have := put_len g (.bool true) kvs; simp; lia
      · rw [put_keys, d4]; simp
        constructor
        · rintro (rfl | ⟨h, h'⟩)
          · exact ⟨.inr rfl, hg2⟩
          · exact ⟨.inl h, h'⟩
        · rintro ⟨h | rfl, h'⟩
          · exact .inr ⟨h, h'⟩
          · exact .inl rfl
      · simp; exact ⟨d5, fun e => hg1 e.symm⟩
      · rw [put_keys]
        have h0 := hgv.1
        rcases put_keys.mp hp with rfl | hp
        · rintro (z | z)
          · lia
          · exact hng z
        · rintro (z | z)
          · apply hng; rw [← z]; simpa using hp
          · exact d6 p hp z
    · have hg2 : g = 1 := by simpa using h3
      subst hg2
      refine kk _ _ ⟨done ++ [1], rs, rfl, e4, x.fr, x.found, x.self, x.src, kvs, d1, by simp; (first | exact Nat.le_succ_of_le (by assumption) | lia), d3, fun p => ?_, ?_, d6⟩
      · rw [d4, List.mem_append, List.mem_singleton]
        exact ⟨fun h => ⟨.inl h.1, h.2⟩, fun h => ⟨h.1.resolve_right h.2, h.2⟩⟩
      · simp; exact d5
  · rintro m H2 ⟨done, rs, e2, e3, x⟩
    obtain rfl := map_nil_inv e2
    obtain rfl : gs = done := by simpa using e3
    obtain ⟨kvs, d1, d2, d3, d4, d5, d6⟩ := x.dict
    refine onO_ok x.found (sorted_ok d1 (by lia) fun ps hp hps => ?_)
    have hm : ∀ p, p ∈ ps ↔ p ∈ gs ∧ p ≠ 1 := fun p => by rw [hp.mem_iff]; exact d4 p
    have hnd := nodup_perm hp d3
    have hlen : ps.length ≤ 3 := by have := hp.length_eq; simp at this; lia
    have hl3 : ps.length < lim := by have : lim = 1048576 := rfl; (first | exact Nat.lt_of_le_of_lt (by assumption) (by decide) | lia)
    have hno : ∀ p ∈ ps, -p ∉ ps := fun p h => by rw [hp.mem_iff]; exact d6 p (hp.mem_iff.mp h)
    refine newO_ok fun H3 F3 l3 e3' => tup_ok e3' (by simpa using hl3) (newO_ok fun H4 F4 l4 e4 => len_ok e4 (by (first | exact congrArg some (List.length_map ..) | simp [lenOf])) hl3 ?_)
    have F : Fr' NoS H H4 := (x.fr.trans F3).trans F4
    have A4 := A.no F
    refine lt_ok (brQ_ok (fun h1 => ?_) fun h1 => ?_)
    · have h1 : ps.length < 2 := by have := of_decide_eq_true h1; (first | exact Int.ofNat_lt.mp (by assumption) | lia)
      refine len_ok e4 (by (first | exact congrArg some (List.length_map ..) | simp [lenOf])) hl3 (eq_ok ?_)
      refine brQ_ok (fun h2 => ?_) fun h2 => ?_
      · have h2 : ps.length = 1 := by have := of_decide_eq_true h2; (first | exact Int.ofNat_inj.mp (by assumption) | lia)
        obtain ⟨r, rfl⟩ := len1 h2
        refine sub_tup (k := 0) e4 (v := .int r) rfl (by decide) ?_
        have hr := (hm r).mp (List.mem_singleton.mpr rfl)
        refine q r C H4 (.inr (.inr (.inl ⟨hr.1, hr.2, fun e => d5 (e ▸ hr.1), rfl, fun g hg => ?_⟩))) A4 F.no
        by_cases z : g = 1
        · exact .inl z
        · exact .inr (List.mem_singleton.mp ((hm g).mpr ⟨hg, z⟩))
      · have h2 : ps.length ≠ 1 := fun e => by rw [e] at h2; cases h2
        have hz : ps = [] := List.eq_nil_of_length_eq_zero (by lia)
        subst hz
        refine q 1 C H4 (.inr (.inl ⟨rfl, rfl, fun g hg => ?_⟩)) A4 F.no
        by_cases z : g = 1
        · exact z
        · cases (hm g).mpr ⟨hg, z⟩
    · have h1 : 2 ≤ ps.length := by
        have h1 := of_decide_eq_false h1; lia
      have hk4 := tupKey_at e4
      refine onO_ok rfl (onO_ok x.self (g_known A4 ?_))
      obtain ⟨kk, k1, k2, k3⟩ := A4.known
      refine cmp_notinT k1 hk4 (brQ_ok (fun h2 => ?_) fun h2 => ?_)
      · have hlk : look ps kk = .none := by
          cases h : look ps kk with
          | none => rfl
          | some v => rw [h] at h2; cases h2
        refine onO_ok x.self (onO_ok (m_new_gate A4) (onO_ok rfl ?_))
        refine c_new_gate_ok (x := .and ps) A4 e4 hs fun H5 F5 n5 A5 => ?_
        have e45 := F5.get _ _ e4 (.inl rfl)
        have k51 : H5[9]? = some (.dictT kk) := by rw [n5]; exact k1
        refine onO_ok x.self (g_known A5 (onO_ok rfl (sSubT_ok k51 (tupKey_at e45) hlk (by have := A.small; (first | exact Nat.lt_of_le_of_lt (by assumption) (by assumption) | lia)) fun H6 s6 => ?_)))
        have A6 : CircAt H6 (C ++ [.and ps]) := by
          obtain ⟨ts, p1, p2, p3⟩ := A5.parts
          have F6 : Fr' SC H5 H6 := Fr'.refl.set1 s6 k51 rfl (.inl (.inr (.inr rfl)))
          refine ⟨s6.get A5.inst (by decide), s6.get A5.attrs (by decide), s6.get A5.kinds (by decide), ⟨ts, s6.get p1 (by decide), p2, fun i t g a b => F6.get _ _ (p3 i t g a b) (.inl rfl)⟩, ⟨_, s6.at_, ?_, fun k v h => ?_⟩, A5.small⟩
          · have := put_len ps (.int (C.length : Int)) kk; simp; lia
          · rw [look_put] at h
            by_cases z : k = ps
            · rw [if_pos z] at h; cases h; subst z
              exact ⟨C.length, rfl, by (first | exact List.getElem?_concat_length .. | simp)⟩
            · rw [if_neg z] at h
              obtain ⟨i, q1, q2⟩ := k3 k v h
              exact ⟨i, q1, get_ext ⟨_, rfl⟩ q2⟩
        have F6 : Fr' SC H5 H6 := Fr'.refl.set1 s6 k51 rfl (.inl (.inr (.inr rfl)))
        refine onO_ok x.self (g_known A6 (onO_ok rfl (sub_T s6.at_ (tupKey_at (F6.get _ _ e45 (.inl rfl))) (by rw [look_put, if_pos rfl]) ?_)))
        exact q _ _ _ (.inr (.inr (.inr ⟨ps, C.length, hm, d5, hno, h1, hlen, hnd, rfl, by (first | exact List.getElem?_concat_length .. | simp), .inr ⟨rfl, rfl⟩⟩))) A6 ((F.no.trans F5).trans F6)
      · obtain ⟨v, hlk⟩ : ∃ v, look ps kk = some v := by
          cases h : look ps kk with
          | none => rw [h] at h2; cases h2
          | some v => exact ⟨v, rfl⟩
        obtain ⟨i, rfl, hi⟩ := k3 _ _ hlk
        refine onO_ok x.self (g_known A4 (onO_ok rfl (sub_T k1 hk4 hlk ?_)))
        exact q _ _ _ (.inr (.inr (.inr ⟨ps, i, hm, d5, hno, h1, hlen, hnd, rfl, hi, .inl rfl⟩))) A4 F.no
end
end Mine
end
section
open PySem PySem.W PyProof.Rows
set_option maxRecDepth 100000
set_option linter.unusedVariables false
set_option autoImplicit false
namespace Mine
/-- a gate made: the circuit grew, and it has the value that was meant -/
structure Made (n k : Nat) (C C' : Ck) (H H' : Hp) (r : Int) (f : (Nat → Bool) → Bool) : Prop where
  pre : C <+: C'
  wf : WF n C'
  at_ : CircAt H' C'
  fr : Fr' SC H H'
  vd : Vd C' r
  val : ∀ ρ, Vl ρ C' r = f ρ
  len : C'.length ≤ C.length + k
theorem Vd.neg {C : Ck} {g : Int} (h : Vd C g) : Vd C (-g) := by unfold Vd; rw [Int.natAbs_neg]; exact h
section
variable {P : Params} {a : Addr} {l : List Int} {d n : Nat} {H : Hp} {C : Ck} {Q : V → Hp → Prop}
theorem onI_ok {i : Int} {Q : Int → Prop} (q : Q i) : onI (.int i) Q := q
theorem onB_ok {c : Bool} {Q : Bool → Prop} (q : Q c) : onB (.bool c) Q := q
theorem all_made {gs : List Int} {j : Nat} (A : CircAt H C) (W : WF n C) (hg : ∀ g ∈ gs, Vd C g) (hj : SeqAt H j (gs.map V.int)) (h3 : gs.length ≤ 3) (hs : C.length + 1 < lim)
    (q : ∀ r C' H', Made n 1 C C' H H' r (fun ρ => gs.all fun g => Vl ρ C g) → Q (.int r) H') : callA (TT P a l) (d + 2) 170 [.ref 4, .ref j] H Q :=
  c_all_of_ok A W hg hj h3 hs fun r C' H' x A' F => q r C' H' ⟨x.pre.1, x.wf W hg, A', F, x.vd W hg, x.val W hg, x.pre.2⟩
theorem Made.no {k : Nat} {C C' : Ck} {H0 H H' : Hp} {r : Int} {f : (Nat → Bool) → Bool} (F : Fr' NoS H0 H) (M : Made n k C C' H H' r f) : Made n k C C' H0 H' r f := { M with fr := F.no.trans M.fr }
theorem Made.neg {k : Nat} {C C' : Ck} {H H' : Hp} {r : Int} {f : (Nat → Bool) → Bool} (M : Made n k C C' H H' r f) : Made n k C C' H H' (-r) (fun ρ => !f ρ) :=
  { M with vd := M.vd.neg, val := fun ρ => by rw [Vl_neg M.vd, M.val] }
theorem Made.congr {k : Nat} {C C' : Ck} {H H' : Hp} {r : Int} {f g : (Nat → Bool) → Bool} (M : Made n k C C' H H' r f) (h : ∀ ρ, f ρ = g ρ) : Made n k C C' H H' r g := { M with val := fun ρ => by rw [M.val, h] }
theorem c_implies_ok {x y : Int} (A : CircAt H C) (W : WF n C) (hx : Vd C x) (hy : Vd C y) (hs : C.length + 1 < lim)
    (q : ∀ r C' H', Made n 1 C C' H H' r (fun ρ => !Vl ρ C x || Vl ρ C y) → Q (.int r) H') : callA (TT P a l) (d + 3) 196 [.ref 4, .int x, .int y] H Q := by
  rw [rd_c_implies_eq]
  unfold rd_c_implies
  refine onO_ok (m_all_of A) (onI_ok (newO_ok fun H1 F1 l1 e1 => ?_))
  refine all_made (gs := [x, -y]) (A.no F1) W (fun g hg => ?_) (.inr e1) (by simp) hs fun r C' H' M => ?_
  · rcases List.mem_cons.mp hg with rfl | hg
    · exact hx
    · rw [List.mem_singleton.mp hg]; exact hy.neg
  · exact q _ _ _ ((M.no F1).neg.congr fun ρ => by simp [Vl_neg hy])
theorem c_any_of_ok {gs : List Int} {j : Nat} (A : CircAt H C) (W : WF n C) (hg : ∀ g ∈ gs, Vd C g) (hj : SeqAt H j (gs.map V.int)) (h3 : gs.length ≤ 3) (hs : C.length + 1 < lim)
    (q : ∀ r C' H', Made n 1 C C' H H' r (fun ρ => gs.any fun g => Vl ρ C g) → Q (.int r) H') : callA (TT P a l) (d + 3) 175 [.ref 4, .ref j] H Q := by
  rw [rd_c_any_of_eq]
  unfold rd_c_any_of
  have hl : lim = 1048576 := rfl
  refine onO_ok (m_all_of A) (over_seq hj fun o ho hoo => ⟨by simp; (first | exact Nat.lt_of_le_of_lt (by assumption) (by decide) | lia), ?_⟩)
  refine cmpL_map (f := fun v => match v with | .int i => .int (-i) | v => v) ho (fun v hv k h => ?_) ?_
  · obtain ⟨i, _, rfl⟩ := List.mem_map.mp hv
    exact h
  · have e : (gs.map V.int).map (fun v => match v with | .int i => V.int (-i) | v => v) = (gs.map fun g => -g).map V.int := by simp
    rw [e]
    refine newO_ok fun H1 F1 l1 e1 => ?_
    refine all_made (gs := gs.map fun g => -g) (A.no F1) W (fun g hg' => ?_) (.inl e1) (by simpa using h3) hs fun r C' H' M => ?_
    · obtain ⟨i, hi, rfl⟩ := List.mem_map.mp hg'
      exact (hg i hi).neg
    · refine q _ _ _ ((M.no F1).neg.congr fun ρ => ?_)
      rw [List.all_map, Bool.eq_iff_iff]
      simp only [Bool.not_eq_true', List.any_eq_true, List.all_eq_false, Function.comp]
      constructor
      · rintro ⟨g, hg', h⟩; rw [Vl_neg (hg g hg')] at h; exact ⟨g, hg', by simpa using h⟩
      · rintro ⟨g, hg', h⟩; exact ⟨g, hg', by rw [Vl_neg (hg g hg'), h]; simp⟩
/-- two gates made in a row, then both -/
theorem both_made {C1 C2 : Ck} {H1 H2 : Hp} {r1 r2 : Int} {f1 f2 : (Nat → Bool) → Bool} (M1 : Made n 1 C C1 H H1 r1 f1) (M2 : Made n 1 C1 C2 H1 H2 r2 f2) (hs : C.length + 3 < lim)
    (q : ∀ r C' H', Made n 3 C C' H H' r (fun ρ => f1 ρ && f2 ρ) → Q (.int r) H') : newO H2 (.tuple [.int r1, .int r2]) fun v H3 => callA (TT P a l) (d + 2) 170 [.ref 4, v] H3 Q := by
  refine newO_ok fun H3 F3 l3 e3 => ?_
  have b1 := M1.len; have b2 := M2.len
  refine all_made (gs := [r1, r2]) (M2.at_.no F3) M2.wf (fun g hg => ?_) (.inr e3) (by simp) (by lia) fun r C' H' M => ?_
  · rcases List.mem_cons.mp hg with rfl | hg
    · exact M1.vd.ext M2.pre
    · rw [List.mem_singleton.mp hg]; exact M2.vd
  · have b3 := M.len
    refine q _ _ _ ⟨(M1.pre.trans M2.pre).trans M.pre, M.wf, M.at_, ((M1.fr.trans M2.fr).trans F3.no).trans M.fr, M.vd, fun ρ => ?_, by lia⟩
    rw [M.val]
    simp only [List.all_cons, List.all_nil, Bool.and_true]
    rw [Vl_ext M2.pre M1.vd, M1.val, M2.val]
theorem c_iff_ok {x y : Int} (A : CircAt H C) (W : WF n C) (hx : Vd C x) (hy : Vd C y) (hs : C.length + 3 < lim)
    (q : ∀ r C' H', Made n 3 C C' H H' r (fun ρ => Vl ρ C x == Vl ρ C y) → Q (.int r) H') : callA (TT P a l) (d + 4) 203 [.ref 4, .int x, .int y] H Q := by
  rw [rd_c_iff_eq]
  unfold rd_c_iff
  refine onO_ok (m_all_of A) (onO_ok (m_implies A) (c_implies_ok A W hx hy (by lia) fun r1 C1 H1 M1 => onO_ok (m_implies M1.at_) ?_))
  have b1 := M1.len
  refine c_implies_ok M1.at_ M1.wf (hy.ext M1.pre) (hx.ext M1.pre) (by lia) fun r2 C2 H2 M2 => ?_
  refine both_made (d := d + 1) M1 M2 hs fun r C' H' M => q _ _ _ (M.congr fun ρ => ?_)
  rw [Vl_ext M1.pre hx, Vl_ext M1.pre hy]
  cases Vl ρ C x <;> cases Vl ρ C y <;> rfl
theorem c_unlike_ok {x y : Int} (A : CircAt H C) (W : WF n C) (hx : Vd C x) (hy : Vd C y) (hs : C.length + 3 < lim)
    (q : ∀ r C' H', Made n 3 C C' H H' r (fun ρ => Vl ρ C x != Vl ρ C y) → Q (.int r) H') : callA (TT P a l) (d + 5) 210 [.ref 4, .int x, .int y] H Q := by
  rw [rd_c_unlike_eq]
  unfold rd_c_unlike
  refine onO_ok (m_iff A) (c_iff_ok A W hx hy hs fun r C' H' M => q _ _ _ (M.neg.congr fun ρ => ?_))
  cases Vl ρ C x <;> cases Vl ρ C y <;> rfl
theorem c_choose_ok {x y z : Int} (A : CircAt H C) (W : WF n C) (hx : Vd C x) (hy : Vd C y) (hz : Vd C z) (hs : C.length + 3 < lim)
    (q : ∀ r C' H', Made n 3 C C' H H' r (fun ρ => (!Vl ρ C x || Vl ρ C y) && (Vl ρ C x || Vl ρ C z)) → Q (.int r) H') : callA (TT P a l) (d + 4) 217 [.ref 4, .int x, .int y, .int z] H Q := by
  rw [rd_c_choose_eq]
  unfold rd_c_choose
  refine onO_ok (m_all_of A) (onO_ok (m_implies A) (c_implies_ok A W hx hy (by lia) fun r1 C1 H1 M1 => onO_ok (m_implies M1.at_) ?_))
  have b1 := M1.len
  refine c_implies_ok M1.at_ M1.wf (hx.neg.ext M1.pre) (hz.ext M1.pre) (by lia) fun r2 C2 H2 M2 => ?_
  refine both_made (d := d + 1) M1 M2 hs fun r C' H' M => q _ _ _ (M.congr fun ρ => ?_)
  rw [Vl_ext M1.pre hx.neg, Vl_ext M1.pre hz, Vl_neg hx]
  cases Vl ρ C x <;> cases Vl ρ C y <;> cases Vl ρ C z <;> rfl
/-- what a way makes of three values -/
noncomputable def wayF (w : Nat) (x y z : Bool) : Bool := match w with
  | 0 => x && y && z
  | 1 => x || y || z
  | 2 => x == y
  | 3 => x != y
  | 4 => (!x || y) && (x || z)
  | _ => !x || y
theorem law_made_ok {w : Nat} {x y z : Int} (A : CircAt H C) (W : WF n C) (hx : Vd C x) (hy : Vd C y) (hz : Vd C z) (hs : C.length + 3 < lim)
    (q : ∀ r C' H', Made n 3 C C' H H' r (fun ρ => wayF w (Vl ρ C x) (Vl ρ C y) (Vl ρ C z)) → Q (.int r) H') : callA (TT P a l) (d + 6) 243 [.ref 4, .int (w : Int), .int x, .int y, .int z] H Q := by
  rw [rd_law_made_eq]
  unfold rd_law_made
  have h3 : ∀ g ∈ [x, y, z], Vd C g := fun g hg => by
    simp only [List.mem_cons, List.not_mem_nil, or_false] at hg
    rcases hg with rfl | rfl | rfl <;> assumption
  have up : ∀ {r : Int} {C' : Ck} {H' : Hp} {f : (Nat → Bool) → Bool}, Made n 1 C C' H H' r f → Made n 3 C C' H H' r f := fun M => { M with len := by have := M.len; lia }
  refine eq_ok (brQ_ok (fun h => ?_) fun h => ?_)
  · have h : (w : Int) = 0 := by (first | exact eq_of_beq h | simpa using h)
    obtain rfl : w = 0 := by (first | exact Int.ofNat_inj.mp (by assumption) | lia)
    refine onO_ok (m_all_of A) (newO_ok fun H1 F1 l1 e1 => ?_)
    exact all_made (gs := [x, y, z]) (d := d + 3) (A.no F1) W h3 (.inl e1) (by simp) (by lia) fun r C' H' M => q _ _ _ ((up (M.no F1)).congr fun ρ => by simp [wayF, Bool.and_assoc])
  have w0 : w ≠ 0 := fun e => by subst e; simp at h
  refine onO_ok rfl (eq_ok (brQ_ok (fun h => ?_) fun h => ?_))
  · have h : (w : Int) = 1 := by (first | exact eq_of_beq h | simpa using h)
    obtain rfl : w = 1 := by (first | exact Int.ofNat_inj.mp (by assumption) | lia)
    refine onO_ok rfl (onO_ok (m_any_of A) (onO_ok rfl (onO_ok rfl (onO_ok rfl (newO_ok fun H1 F1 l1 e1 => ?_)))))
    exact c_any_of_ok (gs := [x, y, z]) (d := d + 2) (A.no F1) W h3 (.inl e1) (by simp) (by lia) fun r C' H' M => q _ _ _ ((up (M.no F1)).congr fun ρ => by simp [wayF, Bool.or_assoc])
  have w1 : w ≠ 1 := fun e => by subst e; simp at h
  refine onO_ok rfl (eq_ok (brQ_ok (fun h => ?_) fun h => ?_))
  · have h : (w : Int) = 2 := by (first | exact eq_of_beq h | simpa using h)
    obtain rfl : w = 2 := by (first | exact Int.ofNat_inj.mp (by assumption) | lia)
    exact onO_ok rfl (onO_ok (m_iff A) (onO_ok rfl (onO_ok rfl (c_iff_ok (d := d + 1) A W hx hy hs fun r C' H' M => q _ _ _ M))))
  have w2 : w ≠ 2 := fun e => by subst e; simp at h
  refine onO_ok rfl (eq_ok (brQ_ok (fun h => ?_) fun h => ?_))
  · have h : (w : Int) = 3 := by (first | exact eq_of_beq h | simpa using h)
    obtain rfl : w = 3 := by (first | exact Int.ofNat_inj.mp (by assumption) | lia)
    exact onO_ok rfl (onO_ok (m_unlike A) (onO_ok rfl (onO_ok rfl (c_unlike_ok (d := d) A W hx hy hs fun r C' H' M => q _ _ _ M))))
  have w3 : w ≠ 3 := fun e => by subst e; simp at h
  refine onO_ok rfl (eq_ok (brQ_ok (fun h => ?_) fun h => ?_))
  · have h : (w : Int) = 4 := by (first | exact eq_of_beq h | simpa using h)
    obtain rfl : w = 4 := by (first | exact Int.ofNat_inj.mp (by assumption) | lia)
    exact onO_ok rfl (onO_ok (m_choose A) (onO_ok rfl (onO_ok rfl (onO_ok rfl (c_choose_ok (d := d + 1) A W hx hy hz hs fun r C' H' M => q _ _ _ M)))))
  have w4 : w ≠ 4 := fun e => by subst e; simp at h
  refine onO_ok rfl (onO_ok (m_implies A) (onO_ok rfl (onO_ok rfl (c_implies_ok (d := d + 2) A W hx hy (by lia) fun r C' H' M => q _ _ _ ((up M).congr fun ρ => ?_)))))
  unfold wayF
  split <;> first | contradiction | rfl
end
end Mine
end
section
open PySem PySem.W PyProof.Rows
set_option maxRecDepth 100000
set_option linter.unusedVariables false
set_option autoImplicit false
namespace Mine
theorem nodup_sub_len {α : Type} [BEq α] [LawfulBEq α] : ∀ {l l' : List α}, l.Nodup → (∀ x ∈ l, x ∈ l') → l.length ≤ l'.length
  | [], _, _, _ => by simp
  | x :: r, l', h, hs => by
    rw [List.nodup_cons] at h
    have hx := hs x (List.mem_cons_self ..)
    have : r.length ≤ (l'.erase x).length := nodup_sub_len h.2 fun y hy => by
      have hne : y ≠ x := fun e => h.1 (e ▸ hy)
      exact (List.mem_erase_of_ne hne).mpr (hs y (List.mem_cons_of_mem _ hy))
    rw [List.length_erase_of_mem hx] at this
    have := List.length_pos_of_mem hx
    simp only [List.length_cons]; lia
theorem whl_ok {t : Loc → Hp → (Bool → Hp → Prop) → Prop} {b : Loc → Hp → (Loc → Hp → Prop) → Prop} {kn : Loc → Hp → Prop} (I : Nat → Loc → Hp → Prop)
    (step : ∀ k m H (K : Loc → Hp → Prop), I k m H → (∀ k' m' H', k' < k → I k' m' H' → K m' H') → t m H fun c H1 => brB c (b m H1 K) (kn m H1)) (k : Nat) (m : Loc) (H : Hp) (h : I k m H) : ∃ n, whl t b n m H kn := by
  have : ∀ N k m H, k < N → I k m H → whl t b N m H kn := by
    intro N
    induction N with
    | zero => intro k _ _ h; (first | exact (Nat.not_lt_zero _ (by assumption)).elim | lia)
    | succ N ih =>
      intro k m H hk hI
      exact step k m H (fun m' H' => whl t b N m' H' kn) hI fun k' m' H' hlt hI' => ih k' m' H' (by lia) hI'
  exact ⟨k + 1, this _ k m H (by (first | exact Nat.le_refl _ | lia)) h⟩
structure CtrB (b : Nat) (H : Hp) : Prop where
  lo : 10 ≤ b
  inst : H[b + 1]? = some (.inst 110 b)
  attrs : H[b]? = some (.attrs [("circuit", .ref 4), ("inputs", .ref (b + 2)), ("known", .ref (b + 3)), ("plans", .ref (b + 4)), ("supports", .ref (b + 5))])
theorem CtrB.fr {S : Nat → Prop} {H H' : Hp} {b : Nat} (B : CtrB b H) (F : Fr' S H H') (h : ¬ S b) : CtrB b H' := ⟨B.lo, F.get _ _ B.inst (.inl rfl), F.get _ _ B.attrs (.inr h)⟩
theorem CtrB.no {H H' : Hp} {b : Nat} (B : CtrB b H) (F : Fr' NoS H H') : CtrB b H' := B.fr F fun z => z
abbrev nats (L : List Nat) : List V := L.map fun (i : Nat) => V.int (i : Int)
section
variable {P : Params} {a : Addr} {l : List Int} {d n b : Nat} {H : Hp} {C : Ck} {Q : V → Hp → Prop}
theorem g_circuit (B : CtrB b H) (q : Q (.ref 4) H) : gAttr (TT P a l) H (.ref (b + 1)) "circuit" Q := gAttr_ok B.inst B.attrs (by kernel_rfl) (by rfl) rfl q
theorem g_inputs (B : CtrB b H) (q : Q (.ref (b + 2)) H) : gAttr (TT P a l) H (.ref (b + 1)) "inputs" Q := gAttr_ok B.inst B.attrs (by kernel_rfl) (by rfl) rfl q
theorem g_kn (B : CtrB b H) (q : Q (.ref (b + 3)) H) : gAttr (TT P a l) H (.ref (b + 1)) "known" Q := gAttr_ok B.inst B.attrs (by kernel_rfl) (by rfl) rfl q
theorem g_plans (B : CtrB b H) (q : Q (.ref (b + 4)) H) : gAttr (TT P a l) H (.ref (b + 1)) "plans" Q := gAttr_ok B.inst B.attrs (by kernel_rfl) (by rfl) rfl q
theorem g_supports (B : CtrB b H) (q : Q (.ref (b + 5)) H) : gAttr (TT P a l) H (.ref (b + 1)) "supports" Q := gAttr_ok B.inst B.attrs (by kernel_rfl) (by rfl) rfl q
theorem mk_ (n : Str) (f : Addr) (B : CtrB b H) (hl : (look n [("circuit", V.ref 4), ("inputs", .ref (b + 2)), ("known", .ref (b + 3)), ("plans", .ref (b + 4)), ("supports", .ref (b + 5))]).isNone = true)
    (hf : ((TT P a l).meth.find? fun t => t.1 == 110 && t.2.1 == n) = some (110, n, f)) : methOf (TT P a l) H (.ref (b + 1)) n = some (.fn f) := mt_fn B.inst B.attrs hl (t := (110, n, f)) hf
theorem m_below (B : CtrB b H) : methOf (TT P a l) H (.ref (b + 1)) "below" = some (.fn 40) := mk_ _ _ B (by rfl) (by kernel_rfl)
theorem m_support (B : CtrB b H) : methOf (TT P a l) H (.ref (b + 1)) "support" = some (.fn 47) := mk_ _ _ B (by rfl) (by kernel_rfl)
theorem m_gathered (B : CtrB b H) : methOf (TT P a l) H (.ref (b + 1)) "gathered" = some (.fn 54) := mk_ _ _ B (by rfl) (by kernel_rfl)
theorem m_turned (B : CtrB b H) : methOf (TT P a l) H (.ref (b + 1)) "turned" = some (.fn 61) := mk_ _ _ B (by rfl) (by kernel_rfl)
theorem m_settled (B : CtrB b H) : methOf (TT P a l) H (.ref (b + 1)) "settled" = some (.fn 66) := mk_ _ _ B (by rfl) (by kernel_rfl)
theorem m_groups (B : CtrB b H) : methOf (TT P a l) H (.ref (b + 1)) "groups" = some (.fn 71) := mk_ _ _ B (by rfl) (by kernel_rfl)
theorem m_pick (B : CtrB b H) : methOf (TT P a l) H (.ref (b + 1)) "pick" = some (.fn 78) := mk_ _ _ B (by rfl) (by kernel_rfl)
theorem m_plan (B : CtrB b H) : methOf (TT P a l) H (.ref (b + 1)) "plan" = some (.fn 83) := mk_ _ _ B (by rfl) (by kernel_rfl)
theorem m_is_ready (B : CtrB b H) : methOf (TT P a l) H (.ref (b + 1)) "is_ready" = some (.fn 90) := mk_ _ _ B (by rfl) (by kernel_rfl)
theorem m_own (B : CtrB b H) : methOf (TT P a l) H (.ref (b + 1)) "own" = some (.fn 97) := mk_ _ _ B (by rfl) (by kernel_rfl)
theorem m_combined (B : CtrB b H) : methOf (TT P a l) H (.ref (b + 1)) "combined" = some (.fn 102) := mk_ _ _ B (by rfl) (by kernel_rfl)
theorem m_count (B : CtrB b H) : methOf (TT P a l) H (.ref (b + 1)) "count" = some (.fn 107) := mk_ _ _ B (by rfl) (by kernel_rfl)

theorem and_str {x : Gt} : (kindS x == ("and" : Str)) = true ↔ ∃ ps, x = .and ps := by
  cases x with
  | and ps => exact ⟨fun _ => ⟨ps, rfl⟩, fun _ => by rfl⟩
  | pad => exact ⟨fun h => absurd h (by decide), fun ⟨_, h⟩ => by cases h⟩
  | tru => exact ⟨fun h => absurd h (by decide), fun ⟨_, h⟩ => by cases h⟩
  | inp => exact ⟨fun h => absurd h (by decide), fun ⟨_, h⟩ => by cases h⟩
theorem inp_str {x : Gt} : (kindS x == ("input" : Str)) = true ↔ x = .inp := by
  cases x with
  | inp => exact ⟨fun _ => rfl, fun _ => by rfl⟩
  | pad => exact ⟨fun h => absurd h (by decide), fun h => by cases h⟩
  | tru => exact ⟨fun h => absurd h (by decide), fun h => by cases h⟩
  | and ps => exact ⟨fun h => absurd (show (("and" : Str) == ("input" : Str)) = true from h) (by decide), fun h => by cases h⟩

structure BlI (n b g0 : Nat) (C : Ck) (H0 : Hp) (f s : Nat) (kvs : List (Int × V)) (st : List Nat) (m : Loc) (H : Hp) : Prop where
  fr : Fr' NoS H0 H
  found : lk "found" m = some (.ref f)
  stack : lk "stack" m = some (.ref s)
  self : lk "self" m = some (.ref (b + 1))
  dict : H[f]? = some (.dictI kvs)
  list : H[s]? = some (.list (nats st))
  nd : (kvs.map (·.1)).Nodup
  keys : ∀ k ∈ kvs.map (·.1), ∃ i : Nat, k = (i : Int) ∧ Rc C g0 i
  sts : ∀ i ∈ st, Rc C g0 i
  clo : ∀ (i : Nat) ps p, (i : Int) ∈ kvs.map (·.1) → C[i]? = some (.and ps) → p ∈ ps → ((p.natAbs : Nat) : Int) ∈ kvs.map (·.1) ∨ p.natAbs ∈ st
  top : (g0 : Int) ∈ kvs.map (·.1) ∨ g0 ∈ st
theorem few_len {C : Ck} {g0 : Nat} {K : List Int} (few : Few C g0 24) (nd : K.Nodup) (h : ∀ k ∈ K, ∃ i : Nat, k = (i : Int) ∧ Rc C g0 i) : K.length ≤ 24 := by
  obtain ⟨fl, f1, f2⟩ := few
  have := nodup_sub_len (l' := fl.map fun i : Nat => (i : Int)) nd fun k hk => by
    obtain ⟨i, rfl, hi⟩ := h k hk
    exact List.mem_map.mpr ⟨i, f2 i hi, rfl⟩
  simp at this; (first | exact Nat.le_trans (by assumption) (by assumption) | lia)
theorem ar1 {s p k l : Nat} (h : 96 + (s + 1) ≤ k + 1 + 4 * l) (hp : p ≤ 3) : 96 + (s + p) ≤ k + 4 * (l + 1) := by lia
theorem ar2 {s p l : Nat} (h : s + 1 ≤ 4 + 4 * l) (hp : p ≤ 3) : s + p ≤ 4 + 4 * (l + 1) := by lia
theorem ar3 {s k l : Nat} (h : 96 + (s + 1) ≤ k + 1 + 4 * l) : 96 + s ≤ k + 4 * l := by lia
theorem k_below_ok {g : Int} (A : CircAt H C) (W : WF n C) (B : CtrB b H) (hv : Vd C g) (few : Few C g.natAbs 24)
    (q : ∀ (L : List Nat) t H', Fr' NoS H H' → H.length ≤ t → H'[t]? = some (.list (nats L)) → L.length ≤ 24 → L.Pairwise (· ≤ ·) → L.Nodup → (∀ j, j ∈ L ↔ Rc C g.natAbs j) → Q (.ref t) H') : callA (TT P a l) (d + 2) 40 [.ref (b + 1), .int g] H Q := by
  rw [rd_k_below_eq]
  unfold rd_k_below
  have hlim : lim = 1048576 := rfl
  refine newDI_ok fun H1 F1 l1 e1 => abs_ok (newO_ok fun H2 F2 l2 e2 => newO_ok fun H3 F3 l3 e3 => ?_)
  refine bindN_ok e3 rfl ?_
  refine whl_ok (fun k m H' => ∃ kvs st, BlI n b g.natAbs C H H.length H1.length kvs st m H' ∧ 96 + st.length ≤ k + 4 * kvs.length ∧ st.length ≤ 4 + 4 * kvs.length) ?_ 97 _ _ ?_
  · rintro k m H4 K ⟨kvs, st, x, hk, hk2⟩ kk
    have hklen := few_len few x.nd x.keys
    rw [List.length_map] at hklen
    refine onO_ok x.stack (len_ok (n := st.length) x.list (by (first | exact congrArg some (List.length_map ..) | simp [lenOf])) (by lia) (gt_ok ?_))
    rcases Nat.eq_zero_or_pos st.length with h0 | h0
    · rw [show decide ((0 : Int) < ((st.length : Nat) : Int)) = false from decide_eq_false (by lia)]
      show onO _ _
      obtain rfl : st = [] := List.eq_nil_of_length_eq_zero (by (first | assumption | lia))
      refine onO_ok x.found (sorted_ok x.dict (by (first | exact Nat.lt_of_le_of_lt (by assumption) (by decide) | lia)) fun ps hp hps => newO_ok fun H5 F5 l5 e5 => ?_)
      have hnn : ∀ z ∈ ps, ∃ i : Nat, z = (i : Int) ∧ Rc C g.natAbs i := fun z hz => x.keys z (hp.mem_iff.mp hz)
      have eL : ps = (ps.map Int.toNat).map fun i : Nat => (i : Int) := by
        rw [List.map_map]
        conv => lhs; rw [← List.map_id ps]
        refine List.map_congr_left fun z hz => ?_
        obtain ⟨i, rfl, _⟩ := hnn z hz
        rfl
      have reach : ∀ {i j : Nat}, Rc C i j → (i : Int) ∈ kvs.map (·.1) → (j : Int) ∈ kvs.map (·.1) := by
        intro i j hr
        induction hr with
        | refl => exact id
        | step h1 h2 _ ih =>
          intro hi
          exact ih ((x.clo _ _ _ hi h1 h2).resolve_right (by simp))
      have htop : ((g.natAbs : Nat) : Int) ∈ kvs.map (·.1) := x.top.resolve_right (by simp)
      refine q (ps.map Int.toNat) _ _ (x.fr.trans F5) x.fr.len ?_ ?_ ?_ ?_ fun j => ?_
      · rw [e5, nats]; congr 2
        conv => lhs; rw [eL]
        simp [Function.comp]
      · have := hp.length_eq; simp at this; simp; lia
      · rw [List.pairwise_map]
        exact hps.imp fun h => by (first | exact Int.toNat_le_toNat (by assumption) | lia)
      · have hnd := nodup_perm hp x.nd
        rw [List.Nodup, List.pairwise_map]
        refine List.Pairwise.imp_of_mem (fun {u v} hu hv h e => h ?_) hnd
        obtain ⟨i, rfl, _⟩ := hnn u hu
        obtain ⟨j, rfl, _⟩ := hnn v hv
        simp at e; rw [e]
      · constructor
        · intro h
          obtain ⟨z, hz, rfl⟩ := List.mem_map.mp h
          obtain ⟨i, rfl, hi⟩ := hnn z hz
          exact hi
        · intro h
          exact List.mem_map.mpr ⟨(j : Int), hp.mem_iff.mpr (reach h htop), rfl⟩
    · rw [show decide ((0 : Int) < ((st.length : Nat) : Int)) = true from decide_eq_true (Int.ofNat_lt.mpr h0)]
      cases k with
      | zero => exact absurd (Nat.le_trans (Nat.add_le_add_left h0 96) (Nat.le_trans hk (Nat.le_trans (Nat.le_of_eq (Nat.zero_add _)) (Nat.mul_le_mul_left 4 hklen)))) (by decide)
      | succ k =>
      show onO _ _
      obtain ⟨st', i, rfl⟩ : ∃ st' i, st = st' ++ [i] := ⟨st.dropLast, st.getLast (by intro e; rw [e] at h0; exact absurd h0 (by simp)), (List.dropLast_concat_getLast _).symm⟩
      have hl4 : H4[H1.length]? = some (.list (nats st' ++ [V.int (i : Int)])) := by rw [x.list]; simp
      have hst : st'.length ≤ 100 := by simp at hk2; lia
      have hi := x.sts i (by (first | exact List.mem_append_right _ (List.mem_cons_self ..) | simp))
      refine onO_ok x.stack (onO_ok (mt_pop hl4) (pop_ok hl4 (by simp; lia) fun H5 s5 => onO_ok x.found ?_))
      have hne1 : H.length ≠ H1.length := by lia
      have d5 := s5.get x.dict hne1
      have F5 : Fr' NoS H H5 := x.fr.set1 s5 hl4 rfl (.inr (by lia))
      refine cmp_notin d5 (brQ_ok (fun h1 => ?_) fun h1 => ?_)
      · have hnew : (i : Int) ∉ kvs.map (·.1) := by
          rw [← look_none]
          cases h : look (i : Int) kvs with
          | none => rfl
          | some v => rw [h] at h1; cases h1
        refine onO_ok x.found (sSubI_ok d5 (by (first | exact Nat.lt_of_le_of_lt (by assumption) (by decide) | lia)) fun H6 s6 => onO_ok x.self ?_)
        have F6 : Fr' NoS H H6 := F5.set1 s6 d5 rfl (.inr (Nat.le_refl _))
        have A6 := A.no F6
        have B6 := B.no F6
        have hil : i < C.length := hi.lt W hv.2
        have hCi : C[((i : Int)).natAbs]? = some C[i] := by rw [Int.natAbs_natCast]; exact List.getElem?_eq_getElem hil
        have st6 := s6.get s5.at_ hne1.symm
        have kv6 : (put (i : Int) (.bool true) kvs).length ≤ 24 := by
          have := few_len few (put_nodup (k := (i : Int)) (v := .bool true) x.nd) fun k hk => by
            rcases put_keys.mp hk with rfl | hk
            · exact ⟨i, rfl, hi⟩
            · exact x.keys k hk
          rwa [List.length_map] at this
        have kv7 : (put (i : Int) (V.bool true) kvs).length = kvs.length + 1 := by
          have e1 := put_len (i : Int) (.bool true) kvs
          have := nodup_sub_len (l := (i : Int) :: kvs.map (·.1)) (l' := (put (i : Int) (.bool true) kvs).map (·.1)) (List.nodup_cons.mpr ⟨hnew, x.nd⟩) fun z hz => by
            rw [put_keys]; exact List.mem_cons.mp hz
          simp at this; (first | exact Nat.le_antisymm (by assumption) (by assumption) | lia)
        have keys6 : ∀ k ∈ (put (i : Int) (V.bool true) kvs).map (·.1), ∃ j : Nat, k = (j : Int) ∧ Rc C g.natAbs j := fun k hk => by
          rcases put_keys.mp hk with rfl | hk
          · exact ⟨i, rfl, hi⟩
          · exact x.keys k hk
        refine g_circuit B6 (onO_ok (m_kind A6) (c_kind_ok (d := d) A6 hCi (eqS_ok (brQ_ok (fun h2 => ?_) fun h2 => ?_))))
        · obtain ⟨ps, hps⟩ := and_str.mp h2
          rw [hps] at hCi
          have hCi' : C[i]? = some (.and ps) := hCi
          have hw := W.at hCi'
          have hwa := hw.ge
          have hwb := hw.two
          have hwc := hw.three
          refine onO_ok x.stack (onO_ok (mt_ext st6) (onO_ok x.self (g_circuit B6 (onO_ok (m_parts A6) (c_parts_ok (d := d) A6 hCi fun t ht => over_tup ht ⟨by simp [partsG]; (first | exact Nat.lt_of_le_of_lt (by assumption) (by decide) | lia), ?_⟩)))))
          refine cmpL_map (f := fun v => match v with | .int i => .int (i.natAbs : Int) | v => v) ht (fun v hv k h => ?_) ?_
          · obtain ⟨z, _, rfl⟩ := List.mem_map.mp hv
            exact abs_ok h
          · refine newO_ok fun H7 F7 l7 e7 => ?_
            have st7 := F7.get _ _ st6 (.inr fun z => z)
            have eab : (List.map V.int (partsG (Gt.and ps))).map (fun v => match v with | .int i => V.int (i.natAbs : Int) | v => v) = nats (ps.map Int.natAbs) := by simp [partsG, nats]
            rw [eab] at e7
            have hlp : ps.length ≤ 3 := hw.three
            refine ext_ok st7 e7 (by simp; lia) fun H8 s8 => drp_none (kk k _ _ ?_ ⟨put (i : Int) (.bool true) kvs, st' ++ ps.map Int.natAbs, ?_, ?_, ?_⟩)
            · exact Nat.lt_succ_self _
            · have F8 : Fr' NoS H H8 := (F6.trans F7).set1 s8 st7 rfl (.inr (by lia))
              refine ⟨F8, x.found, x.stack, x.self, s8.get (F7.get _ _ s6.at_ (.inr fun z => z)) hne1, ?_, put_nodup x.nd, keys6, ?_, ?_, ?_⟩
              · rw [s8.at_]; simp [nats]
              · intro j hj
                rcases List.mem_append.mp hj with hj | hj
                · exact x.sts j (by (first | exact List.mem_append_left _ (by assumption) | simp [hj]))
                · obtain ⟨p, hp, rfl⟩ := List.mem_map.mp hj
                  exact hi.trans (.part hCi' hp)
              · intro j qs p hj hq hp
                rcases put_keys.mp hj with e | hj
                · have e : j = i := by (first | exact Int.ofNat_inj.mp (by assumption) | lia)
                  subst e
                  rw [hCi'] at hq; cases hq
                  exact .inr (List.mem_append_right _ (List.mem_map.mpr ⟨p, hp, rfl⟩))
                · rcases x.clo j qs p hj hq hp with h | h
                  · exact .inl (put_keys.mpr (.inr h))
                  · rcases List.mem_append.mp h with h | h
                    · exact .inr (List.mem_append_left _ h)
                    · rw [List.mem_singleton.mp h]; exact .inl (put_keys.mpr (.inl rfl))
              · rcases x.top with h | h
                · exact .inl (put_keys.mpr (.inr h))
                · rcases List.mem_append.mp h with h | h
                  · exact .inr (List.mem_append_left _ h)
                  · rw [List.mem_singleton.mp h]; exact .inl (put_keys.mpr (.inl rfl))
            · rw [kv7, List.length_append, List.length_map]; rw [List.length_append] at hk; exact ar1 hk hlp
            · rw [kv7, List.length_append, List.length_map]; rw [List.length_append] at hk2; exact ar2 hk2 hlp
        · have hna : ∀ ps, C[i]? ≠ some (.and ps) := fun ps e => by
            have e2 : C[i]? = some C[i] := List.getElem?_eq_getElem hil
            rw [e2] at e
            have : (kindS C[i] == ("and" : Str)) = true := and_str.mpr ⟨ps, Option.some.inj e⟩
            rw [this] at h2; cases h2
          refine kk k _ _ ?_ ⟨put (i : Int) (.bool true) kvs, st', ?_, ?_, ?_⟩
          · exact Nat.lt_succ_self _
          · refine ⟨F6, x.found, x.stack, x.self, s6.at_, st6, put_nodup x.nd, keys6, fun j hj => x.sts j (by (first | exact List.mem_append_left _ (by assumption) | simp [hj])), ?_, ?_⟩
            · intro j qs p hj hq hp
              rcases put_keys.mp hj with e | hj
              · have e : j = i := by (first | exact Int.ofNat_inj.mp (by assumption) | lia)
                subst e
                exact absurd hq (hna qs)
              · rcases x.clo j qs p hj hq hp with h | h
                · exact .inl (put_keys.mpr (.inr h))
                · rcases List.mem_append.mp h with h | h
                  · exact .inr h
                  · rw [List.mem_singleton.mp h]; exact .inl (put_keys.mpr (.inl rfl))
            · rcases x.top with h | h
              · exact .inl (put_keys.mpr (.inr h))
              · rcases List.mem_append.mp h with h | h
                · exact .inr h
                · rw [List.mem_singleton.mp h]; exact .inl (put_keys.mpr (.inl rfl))
          · rw [kv7]; rw [List.length_append] at hk; exact ar1 (p := 0) hk (Nat.zero_le _)
          · rw [kv7]; rw [List.length_append] at hk2; exact ar2 (p := 0) hk2 (Nat.zero_le _)
      · have hold : (i : Int) ∈ kvs.map (·.1) := by
          rw [look_key]
          cases h : look (i : Int) kvs with
          | none => rw [h] at h1; cases h1
          | some v => exact ⟨v, rfl⟩
        refine kk k _ _ (Nat.lt_succ_self _) ⟨kvs, st', ?_, by rw [List.length_append] at hk; exact ar3 hk, ?_⟩
        · refine ⟨F5, x.found, x.stack, x.self, d5, s5.at_, x.nd, x.keys, fun j hj => x.sts j (by (first | exact List.mem_append_left _ (by assumption) | simp [hj])), ?_, ?_⟩
          · intro j qs p hj hq hp
            rcases x.clo j qs p hj hq hp with h | h
            · exact .inl h
            · rcases List.mem_append.mp h with h | h
              · exact .inr h
              · rw [List.mem_singleton.mp h]; exact .inl hold
          · rcases x.top with h | h
            · exact .inl h
            · rcases List.mem_append.mp h with h | h
              · exact .inr h
              · rw [List.mem_singleton.mp h]; exact .inl hold
        · rw [List.length_append] at hk2; exact Nat.le_of_succ_le hk2
  · refine ⟨[], [g.natAbs], ⟨(F1.trans F2).trans F3, rfl, rfl, rfl, F3.get _ _ (F2.get _ _ e1 (.inr fun z => z)) (.inr fun z => z), F3.get _ _ e2 (.inr fun z => z), by (first | exact List.nodup_nil | simp), by simp, fun i hi => ?_, by simp, .inr (by (first | exact List.mem_cons_self .. | simp))⟩, by simp, by (first | exact Nat.succ_pos _ | simp)⟩
    rw [List.mem_singleton.mp hi]; exact .refl _
end
end Mine
end
section
open PySem PySem.W PyProof.Rows
set_option maxRecDepth 100000
set_option linter.unusedVariables false
set_option autoImplicit false
namespace Mine
/-- the object at t is a dict whose keys are gate i's support -/
noncomputable def SetK (H : Hp) (C : Ck) (t i : Nat) : Prop := ∃ kvs, H[t]? = some (.dictI kvs) ∧ (kvs.map (·.1)).Nodup ∧ ∀ x, x ∈ kvs.map (·.1) ↔ ∃ y : Nat, x = (y : Int) ∧ Sp C i y
noncomputable def SupN (N : Nat → Prop) (b : Nat) (H : Hp) (C : Ck) : Prop := ∃ kvs, H[b + 5]? = some (.dictI kvs) ∧ (kvs.map (·.1)).Nodup ∧ ∀ k v, look k kvs = some v → ∃ i t : Nat, k = (i : Int) ∧ i < C.length ∧ v = .ref t ∧ (b + 5 < t ∧ N t) ∧ SetK H C t i
abbrev SupAt (b : Nat) (H : Hp) (C : Ck) : Prop := SupN (fun _ => True) b H C
/-- gate i's support stands in the counter's table -/
noncomputable def HasSup (b : Nat) (H : Hp) (i : Nat) : Prop := ∃ kvs v, H[b + 5]? = some (.dictI kvs) ∧ look (i : Int) kvs = some v
noncomputable def SS (b : Nat) : Nat → Prop := fun j => j = b + 5
theorem SetK.fr {S : Nat → Prop} {H H' : Hp} {C : Ck} {t i : Nat} (x : SetK H C t i) (F : Fr' S H H') (h : ¬ S t) : SetK H' C t i := by obtain ⟨kvs, e, r⟩ := x; exact ⟨kvs, F.get _ _ e (.inr h), r⟩
theorem SetK.ext {n : Nat} {H : Hp} {C C' : Ck} {t i : Nat} (W : WF n C) (e : C <+: C') (hi : i < C.length) (x : SetK H C t i) : SetK H C' t i := by
  obtain ⟨kvs, a, b, c⟩ := x
  refine ⟨kvs, a, b, fun x => ?_⟩
  rw [c]
  exact exists_congr fun y => and_congr_right fun _ => (Sp.ext W e hi).symm
theorem SupN.fr {N S : Nat → Prop} {H H' : Hp} {C : Ck} {b : Nat} (x : SupN N b H C) (F : Fr' S H H') (h : ∀ j, b + 5 ≤ j → ¬ S j) : SupN N b H' C := by
  obtain ⟨kvs, e, nd, r⟩ := x
  refine ⟨kvs, F.get _ _ e (.inr (h _ (Nat.le_refl _))), nd, fun k v hk => ?_⟩
  obtain ⟨i, t, h1, h2, h3, h4, h5⟩ := r k v hk
  exact ⟨i, t, h1, h2, h3, h4, h5.fr F (h t (by lia))⟩
theorem HasSup.fr {S : Nat → Prop} {H H' : Hp} {b i : Nat} (x : HasSup b H i) (F : Fr' S H H') (h : ¬ S (b + 5)) : HasSup b H' i := by obtain ⟨kvs, v, e, r⟩ := x; exact ⟨kvs, v, F.get _ _ e (.inr h), r⟩
theorem SupN.mono {N N' : Nat → Prop} {H : Hp} {C : Ck} {b : Nat} (x : SupN N b H C) (h : ∀ t, t < H.length → N t → N' t) : SupN N' b H C := by
  obtain ⟨kvs, e, nd, r⟩ := x
  refine ⟨kvs, e, nd, fun k v hk => ?_⟩
  obtain ⟨i, t, h1, h2, h3, h4, h5⟩ := r k v hk
  exact ⟨i, t, h1, h2, h3, ⟨h4.1, h t (by obtain ⟨_, z, _⟩ := h5; exact lt_of_get z) h4.2⟩, h5⟩
theorem SupN.ext {N : Nat → Prop} {n : Nat} {H : Hp} {C C' : Ck} {b : Nat} (W : WF n C) (e : C <+: C') (x : SupN N b H C) : SupN N b H C' := by
  obtain ⟨kvs, h, nd, r⟩ := x
  refine ⟨kvs, h, nd, fun k v hk => ?_⟩
  obtain ⟨i, t, h1, h2, h3, h4, h5⟩ := r k v hk
  exact ⟨i, t, h1, Nat.lt_of_lt_of_le h2 e.length_le, h3, h4, h5.ext W e h2⟩
theorem SupN.len {N : Nat → Prop} {H : Hp} {C : Ck} {b : Nat} (x : SupN N b H C) : b + 5 < H.length := by obtain ⟨_, h, _⟩ := x; exact lt_of_get h
theorem keys_len {C : Ck} {kvs : List (Int × V)} (nd : (kvs.map (·.1)).Nodup) (h : ∀ k ∈ kvs.map (·.1), ∃ i : Nat, k = (i : Int) ∧ i < C.length) : kvs.length ≤ C.length := by
  have := nodup_sub_len (l' := (List.range C.length).map fun i : Nat => (i : Int)) nd fun k hk => by
    obtain ⟨i, rfl, hi⟩ := h k hk
    exact List.mem_map.mpr ⟨i, List.mem_range.mpr hi, rfl⟩
  simpa using this
theorem sup_len {n : Nat} {C : Ck} {i : Nat} (W : WF n C) {kvs : List (Int × V)} (nd : (kvs.map (·.1)).Nodup) (h : ∀ x ∈ kvs.map (·.1), ∃ y : Nat, x = (y : Int) ∧ 2 ≤ y ∧ y < n + 2) : kvs.length ≤ n := by
  have := nodup_sub_len (l' := (List.range n).map fun i : Nat => ((i + 2 : Nat) : Int)) nd fun k hk => by
    obtain ⟨y, rfl, h1, h2⟩ := h k hk
    exact List.mem_map.mpr ⟨y - 2, List.mem_range.mpr (Nat.sub_lt_right_of_lt_add h1 h2), congrArg _ (Nat.sub_add_cancel h1)⟩
  simpa using this
section
variable {P : Params} {a : Addr} {l : List Int} {d n b : Nat} {H : Hp} {C : Ck} {Q : V → Hp → Prop}
inductive GaI (b : Nat) (C : Ck) (H : Hp) (t : Nat) (ps : List Int) (rest : List V) (m : Loc) (H' : Hp) : Prop
  | mk (done rs : List Int) (kvs : List (Int × V)) (h0 : rest = rs.map V.int) (h1 : ps = done ++ rs) (h2 : Fr' NoS H H') (h3 : lk "found" m = some (.ref H.length)) (h4 : lk "self" m = some (.ref (b + 1))) (h5 : H'[t]? = some (.tuple ((partsG (.and ps)).map V.int))) (h6 : H'[H.length]? = some (.dictI kvs)) (h7 : (kvs.map (·.1)).Nodup) (h8 : ∀ x, x ∈ kvs.map (·.1) ↔ ∃ y : Nat, x = (y : Int) ∧ ∃ p ∈ done, Sp C p.natAbs y) : GaI b C H t ps rest m H'
theorem k_gathered_ok {N : Nat → Prop} {i : Nat} (A : CircAt H C) (W : WF n C) (h4 : n ≤ 4) (B : CtrB b H) (Sx : SupN N b H C) (h1 : 1 ≤ i) (hi : i < C.length) (hp : ∀ ps p, C[i]? = some (.and ps) → p ∈ ps → HasSup b H p.natAbs)
    (q : ∀ t H', Fr' NoS H H' → H.length ≤ t → SetK H' C t i → Q (.ref t) H') : callA (TT P a l) (d + 2) 54 [.ref (b + 1), .int (i : Int)] H Q := by
  rw [rd_k_gathered_eq]
  unfold rd_k_gathered
  have hlim : lim = 1048576 := rfl
  have hCi : C[((i : Int)).natAbs]? = some C[i] := by rw [Int.natAbs_natCast]; exact List.getElem?_eq_getElem hi
  have hCi' : C[i]? = some C[i] := hCi
  refine g_circuit B (onO_ok (m_kind A) (c_kind_ok (d := d) A hCi (newDI_ok fun H1 F1 l1 e1 => newO_ok fun H2 F2 l2 e2 => bindN_ok e2 rfl (onO_ok rfl (eqS_ok ?_)))))
  have e12 := F2.get _ _ e1 (.inr fun z => z)
  have F : Fr' NoS H H2 := F1.trans F2
  refine brQ_ok (fun hk => ?_) fun hk => ?_
  · have hk := inp_str.mp hk
    rw [hk] at hCi'
    refine onO_ok rfl (onO_ok rfl (sSubI_ok e12 (by simp; (first | exact Nat.succ_pos _ | lia)) fun H3 s3 => onO_ok rfl (q _ _ (F.set1 s3 e12 rfl (.inr (Nat.le_refl _))) (Nat.le_refl _) ⟨_, s3.at_, put_nodup (by (first | exact List.nodup_nil | simp)), fun x => ?_⟩)))
    rw [put_keys]
    simp only [List.map_nil, List.not_mem_nil, or_false]
    constructor
    · rintro rfl; exact ⟨i, rfl, (Sp.inp hCi').mpr rfl⟩
    · rintro ⟨y, rfl, hy⟩; rw [(Sp.inp hCi').mp hy]
  · refine onO_ok rfl (eqS_ok (brQ_ok (fun hk2 => ?_) fun hk2 => ?_))
    · obtain ⟨ps, hps⟩ := and_str.mp hk2
      rw [hps] at hCi hCi'
      have hw := W.at hCi'
      have hwa := hw.ge
      have hwb := hw.two
      have hwc := hw.three
      have B2 := B.no F
      have A2 := A.no F
      refine onO_ok rfl (g_circuit B2 (onO_ok (m_parts A2) (onO_ok rfl (c_parts_ok (d := d) A2 hCi fun t ht => over_tup ht ?_))))
      refine forL_ok (GaI b C H t ps) ?_ ?_ _ _ _ ⟨[], ps, [], rfl, rfl, F, rfl, rfl, ht, e12, by (first | exact List.nodup_nil | simp), by simp⟩ fun rest m' H' x => by
          obtain ⟨_, _, _, _, _, _, _, _, x, _⟩ := x; exact x
      · rintro v rest m H3 k ⟨done, rs, kvs, e3, e4, F3, m1, m2, t3, d3, nd, ks⟩ kk
        obtain ⟨p, rs, rfl, rfl, rfl⟩ := map_cons_inv e3
        have hpm : p ∈ ps := by rw [e4]; simp
        obtain ⟨kv5, v5, h5, l5⟩ := (hp ps p hCi' hpm).fr F3 (fun z => z)
        obtain ⟨kv6, h6, _, r6⟩ := Sx.fr F3 (fun _ _ z => z)
        rw [h5] at h6; cases h6
        obtain ⟨i', t', z1, z2, rfl, z3, skv, s1, s2, s3⟩ := r6 _ _ l5
        have hl1 : kvs.length ≤ n := sup_len (i := i) W nd fun x hx => by
          obtain ⟨y, rfl, p', _, hy⟩ := (ks x).mp hx
          exact ⟨y, rfl, hy.range W⟩
        have hl2 : skv.length ≤ n := sup_len (i := i) W s2 fun x hx => by
          obtain ⟨y, rfl, hy⟩ := (s3 x).mp hx
          exact ⟨y, rfl, hy.range W⟩
        obtain rfl : i' = p.natAbs := by (first | exact (Int.ofNat_inj.mp (by assumption)).symm | lia)
        refine onO_ok m1 (onO_ok (mt_upd d3) (onO_ok m2 (g_supports (B.no F3) (abs_ok (sub_I h5 l5 (upd_ok d3 s1 ?_ (by lia) fun H4 s4 => drp_none ?_))))))
        · intro e
          obtain ⟨kv0, h0, _, r0⟩ := Sx
          have hh : H[b + 5]? = some (.dictI kv5) := by
            have := F3.get _ _ h0 (.inr fun z => z)
            rw [h5] at this; cases this; exact h0
          rw [hh] at h0; cases h0
          obtain ⟨_, t0, _, _, et, _, kvt, st0, _⟩ := r0 _ _ l5
          cases et
          have := lt_of_get st0
          lia
        · refine kk _ _ ⟨done ++ [p], rs, _, rfl, by rw [e4]; simp, F3.set1 s4 d3 rfl (.inr (Nat.le_refl _)), m1, m2, s4.get t3 (fun e => by rw [e, d3] at t3; cases t3), s4.at_, putAll_nodup nd, fun x => ?_⟩
          rw [putAll_keys, ks, s3]
          constructor
          · rintro (⟨y, e, p', hp', hy⟩ | ⟨y, e, hy⟩)
            · exact ⟨y, e, p', by (first | exact List.mem_append_left _ (by assumption) | simp [hp']), hy⟩
            · exact ⟨y, e, p, by (first | exact List.mem_append_right _ (List.mem_cons_self ..) | simp), hy⟩
          · rintro ⟨y, e, p', hp', hy⟩
            rcases List.mem_append.mp hp' with h | h
            · exact .inl ⟨y, e, p', h, hy⟩
            · rw [List.mem_singleton.mp h] at hy; exact .inr ⟨y, e, hy⟩
      · rintro m H3 ⟨done, rs, kvs, e3, e4, F3, m1, m2, t3, d3, nd, ks⟩
        obtain rfl := map_nil_inv e3
        obtain rfl : ps = done := by simpa using e4
        refine onO_ok m1 (q _ _ F3 (Nat.le_refl _) ⟨kvs, d3, nd, fun x => ?_⟩)
        rw [ks]
        exact exists_congr fun y => and_congr_right fun _ => (Sp.and hCi').symm
    · refine onO_ok rfl (q _ _ F (Nat.le_refl _) ⟨[], e12, by (first | exact List.nodup_nil | simp), fun x => ?_⟩)
      simp only [List.map_nil, List.not_mem_nil, false_iff]
      rintro ⟨y, _, hy⟩
      refine Sp.none (fun e => ?_) (fun ps e => ?_) hy
      · rw [hCi'] at e; rw [inp_str.mpr (Option.some.inj e)] at hk; cases hk
      · rw [hCi'] at e; rw [and_str.mpr ⟨ps, Option.some.inj e⟩] at hk2; cases hk2
inductive SuI (N : Nat → Prop) (b : Nat) (C : Ck) (H : Hp) (tl : Nat) (g : Int) (L : List Nat) (rest : List V) (m : Loc) (H' : Hp) : Prop
  | mk (done rs : List Nat) (h0 : rest = nats rs) (h1 : L = done ++ rs) (h2 : Fr' (SS b) H H') (h3 : lk "self" m = some (.ref (b + 1))) (h4 : lk "gate" m = some (.int g)) (h5 : H'[tl]? = some (.list (nats L))) (h6 : SupN N b H' C) (h7 : ∀ j ∈ done, HasSup b H' j) : SuI N b C H tl g L rest m H'
theorem k_support_ok {N : Nat → Prop} {g : Int} (A : CircAt H C) (W : WF n C) (h4 : n ≤ 4) (B : CtrB b H) (hN : ∀ t, H.length ≤ t → N t) (Sx : SupN N b H C) (hv : Vd C g) (few : Few C g.natAbs 24) (hsm : C.length + 1 < lim)
    (q : ∀ t H', Fr' (SS b) H H' → SupN N b H' C → b + 5 < t → N t → SetK H' C t g.natAbs → Q (.ref t) H') : callA (TT P a l) (d + 3) 47 [.ref (b + 1), .int g] H Q := by
  rw [rd_k_support_eq]
  unfold rd_k_support
  obtain ⟨kvs, e5, nd, r5⟩ := id Sx
  have tail : ∀ (m : Loc) (H1 : Hp), Fr' (SS b) H H1 → SupN N b H1 C → HasSup b H1 g.natAbs → lk "self" m = some (.ref (b + 1)) → lk "gate" m = some (.int g) →
      onO (lk "self" m) fun v35 => gAttr (TT P a l) H1 v35 "supports" fun v36 H37 => onO (lk "gate" m) fun v38 => bltV "abs" [v38] H37 fun v39 H40 => gSub H40 v36 v39 fun v41 H42 => Q v41 H42 := fun m H1 F S1 hs m1 m2 => by
    obtain ⟨kv1, v1, h1, l1⟩ := hs
    obtain ⟨kv2, h2, _, r2⟩ := id S1
    rw [h1] at h2; cases h2
    obtain ⟨i, t, z1, z2, rfl, z3, z4⟩ := r2 _ _ l1
    obtain rfl : i = g.natAbs := by (first | exact (Int.ofNat_inj.mp (by assumption)).symm | lia)
    exact onO_ok m1 (g_supports (B.fr F (by unfold SS; first | decide | lia)) (onO_ok m2 (abs_ok (sub_I h1 l1 (q t H1 F S1 z3.1 z3.2 z4)))))
  refine abs_ok (g_supports B (cmp_notin e5 (brQ_ok (fun h => ?_) fun h => ?_)))
  · refine onO_ok (m_below B) (k_below_ok (d := d) A W B hv few fun L tl H1 F1 tl1 e1 L24 Ls Lnd Lm => over_list e1 ?_)
    have hb5 := Sx.len
    refine forL_ok (SuI N b C H tl g L) ?_ ?_ _ _ _
      ⟨[], L, rfl, rfl, F1.no, rfl, rfl, e1, Sx.fr F1 (fun _ _ z => z), by simp⟩ fun rest m' H' x => by obtain ⟨_, _, _, _, _, _, _, x, _⟩ := x; exact x
    · rintro v rest m H2 k ⟨done, rs, e2, e3, F2, m1, m2, t2, S2, dn⟩ kk
      obtain ⟨i, rs, rfl, rfl, rfl⟩ := map_cons_inv e2
      have hiL : i ∈ L := by rw [e3]; simp
      have hir := (Lm i).mp hiL
      have hil : i < C.length := hir.lt W hv.2
      have hi1 : 1 ≤ i := (hir.le W).2.1 hv.1
      have B2 := B.fr F2 (by unfold SS; first | decide | lia)
      have A2 := A.fr F2 (by (first | exact Nat.ne_of_lt (Nat.lt_of_lt_of_le (by decide) (Nat.le_trans B.lo (Nat.le_add_right ..))) | (unfold SS; have := B.lo; lia))) (by (first | exact Nat.ne_of_lt (Nat.lt_of_lt_of_le (by decide) (Nat.le_trans B.lo (Nat.le_add_right ..))) | (unfold SS; have := B.lo; lia))) (by (first | exact Nat.ne_of_lt (Nat.lt_of_lt_of_le (by decide) (Nat.le_trans B.lo (Nat.le_add_right ..))) | (unfold SS; have := B.lo; lia))) (by (first | exact Nat.ne_of_lt (Nat.lt_of_lt_of_le (by decide) (Nat.le_trans B.lo (Nat.le_add_right ..))) | (unfold SS; have := B.lo; lia)))
      obtain ⟨kv2, h2, nd2, r2⟩ := id S2
      refine onO_ok m1 (g_supports B2 (cmp_notin h2 (brQ_ok (fun h => ?_) fun h => ?_)))
      · refine onO_ok m1 (onO_ok (m_gathered B2) (k_gathered_ok (d := d) A2 W h4 B2 S2 hi1 hil (fun ps p hc hp => dn _ ?_) fun t H3 F3 t3 K3 => onO_ok m1 ?_))
        · have hlt := W.and_parts hc p hp
          have hmem : p.natAbs ∈ L := (Lm _).mpr (hir.trans (.part hc hp))
          rw [e3] at hmem Ls
          rcases List.mem_append.mp hmem with h | h
          · exact h
          · exfalso
            rw [List.pairwise_append] at Ls
            rcases List.mem_cons.mp h with h | h
            · lia
            · have := (List.pairwise_cons.mp Ls.2.1).1 _ h
              lia
        · have B3 := B2.no F3
          have h3 := F3.get _ _ h2 (.inr fun z => z)
          have S3 := S2.fr F3 (fun _ _ z => z)
          have hl3 : kv2.length < lim := by
            have := keys_len (C := C) nd2 fun k hk => by
              obtain ⟨v, hv⟩ := look_key.mp hk
              obtain ⟨i, t, z1, z2, _⟩ := r2 k v hv
              exact ⟨i, z1, z2⟩
            lia
          refine g_supports B3 (sSubI_ok h3 hl3 fun H4 s4 => kk _ _ ?_)
          have F23 : Fr' (SS b) H2 H4 := F3.no.set1 s4 h3 rfl (.inl rfl)
          have F4 : Fr' (SS b) H H4 := F2.trans F23
          have htb : b + 5 < t := by have := S2.len; (first | exact Nat.lt_of_lt_of_le (by assumption) (by assumption) | lia)
          have K4 : SetK H4 C t i := by
            obtain ⟨kvt, q1, q2, q3⟩ := K3
            exact ⟨kvt, s4.get q1 (by (first | exact Nat.ne_of_gt (by assumption) | lia)), q2, q3⟩
          have S4 : SupN N b H4 C := by
            refine ⟨_, s4.at_, put_nodup nd2, fun k v hkv => ?_⟩
            rw [look_put] at hkv
            by_cases z : k = (i : Int)
            · rw [if_pos z] at hkv; cases hkv
              exact ⟨i, t, z, hil, rfl, ⟨htb, hN t (Nat.le_trans F2.len t3)⟩, K4⟩
            · rw [if_neg z] at hkv
              obtain ⟨i', t', z1, z2, z3, z4, kvt, q1, q2, q3⟩ := r2 k v hkv
              exact ⟨i', t', z1, z2, z3, z4, kvt, s4.get (F3.get _ _ q1 (.inr fun z => z)) (by lia), q2, q3⟩
          refine ⟨done ++ [i], rs, rfl, by rw [e3]; simp, F4, m1, m2, s4.get (F3.get _ _ t2 (.inr fun z => z)) (by lia), S4, fun j hj => ⟨put (i : Int) (.ref t) kv2, ?_⟩⟩
          rcases List.mem_append.mp hj with hj | hj
          · obtain ⟨kvj, vj, j1, j2⟩ := dn j hj
            rw [h2] at j1; cases j1
            by_cases z : (j : Int) = (i : Int)
            · exact ⟨.ref t, s4.at_, by rw [look_put, if_pos z]⟩
            · exact ⟨vj, s4.at_, by rw [look_put, if_neg z]; exact j2⟩
          · rw [List.mem_singleton.mp hj]
            exact ⟨.ref t, s4.at_, by rw [look_put, if_pos rfl]⟩
      · refine kk _ _ ⟨done ++ [i], rs, rfl, by rw [e3]; simp, F2, m1, m2, t2, S2, fun j hj => ?_⟩
        rcases List.mem_append.mp hj with hj | hj
        · exact dn j hj
        · rw [List.mem_singleton.mp hj]
          cases hh : look (i : Int) kv2 with
          | none => rw [hh] at h; cases h
          | some v => exact ⟨kv2, v, h2, hh⟩
    · rintro m H2 ⟨done, rs, e2, e3, F2, m1, m2, t2, S2, dn⟩
      obtain rfl := map_nil_inv e2
      obtain rfl : L = done := by simpa using e3
      exact tail m H2 F2 S2 (dn _ ((Lm _).mpr (.refl _))) m1 m2
  · refine tail _ H .refl Sx ?_ rfl rfl
    cases hh : look ((g.natAbs : Nat) : Int) kvs with
    | none => rw [hh] at h; cases h
    | some v => exact ⟨kvs, v, e5, hh⟩
theorem k_turned_ok {g : Int} {t : Nat} {kvs : List (Int × V)} {r : Int} (B : CtrB b H) (ht : H[t]? = some (.dictI kvs)) (hr : (look ((g.natAbs : Nat) : Int) kvs).getD (.int (g.natAbs : Nat)) = .int r) (q : Q (.int (if 0 < g then r else -r)) H) :
    callA (TT P a l) (d + 1) 61 [.ref (b + 1), .int g, .ref t] H Q := by
  rw [rd_k_turned_eq]
  unfold rd_k_turned
  refine onO_ok (mt_get ht) (abs_ok (abs_ok (get_ok ht ?_)))
  rw [hr]
  refine gt_ok (brQ_ok (fun h => ?_) fun h => ?_)
  · rw [if_pos (of_decide_eq_true h)] at q; exact q
  · rw [if_neg (of_decide_eq_false h)] at q; exact q
end
end Mine
end
section
open PySem PySem.W PyProof.Rows
set_option maxRecDepth 100000
set_option linter.unusedVariables false
set_option autoImplicit false
namespace Mine
noncomputable def SCS (b : Nat) : Nat → Prop := fun j => SC j ∨ j = b + 5
theorem nSCS {b u : Nat} (hb : 10 ≤ b) (h : b + 5 < u) : ¬ SCS b u := fun z => z.elim (nSC (Nat.le_trans hb (Nat.le_trans (Nat.le_add_right b 5) (Nat.le_of_lt h)))) fun e => by subst e; exact Nat.lt_irrefl _ h
theorem SCS.of_SC {b j : Nat} (h : SC j) : SCS b j := .inl h
theorem SCS.of_SS {b j : Nat} (h : SS b j) : SCS b j := .inr h
theorem CircAt.ss {H H' : Hp} {C : Ck} {b : Nat} (A : CircAt H C) (F : Fr' (SS b) H H') (h : 10 ≤ b) : CircAt H' C :=
  A.fr F (by unfold SS; first | decide | lia) (by unfold SS; first | decide | lia) (by unfold SS; first | decide | lia) (by unfold SS; first | decide | lia)
theorem SupN.sc {N : Nat → Prop} {H H' : Hp} {C : Ck} {b : Nat} (x : SupN N b H C) (F : Fr' SC H H') (h : 10 ≤ b) : SupN N b H' C := x.fr F fun j hj => by unfold SC; first | decide | lia
theorem CtrB.sc {H H' : Hp} {b : Nat} (B : CtrB b H) (F : Fr' SC H H') : CtrB b H' := B.fr F (by have := B.lo; unfold SC; lia)
theorem CtrB.ss {H H' : Hp} {b : Nat} (B : CtrB b H) (F : Fr' (SS b) H H') : CtrB b H' := B.fr F (by unfold SS; first | decide | lia)
theorem CtrB.scs {H H' : Hp} {b : Nat} (B : CtrB b H) (F : Fr' (SCS b) H H') : CtrB b H' := B.fr F (by have := B.lo; unfold SCS SC; lia)
noncomputable def allInt (kvs : List (Int × V)) : Prop := ∀ k w, look k kvs = some w → ∃ r, w = .int r
noncomputable def tv (kvs : List (Int × V)) (j : Nat) : Int := match (look (j : Int) kvs).getD (.int (j : Int)) with | .int r => r | _ => 0
theorem tv_eq {kvs : List (Int × V)} (h : allInt kvs) (j : Nat) : (look (j : Int) kvs).getD (.int (j : Int)) = .int (tv kvs j) := by
  unfold tv
  cases e : look (j : Int) kvs with
  | none => rfl
  | some w => obtain ⟨r, rfl⟩ := h _ _ e; rfl
theorem tv_put (kvs : List (Int × V)) (h : Nat) (r : Int) : tv (put (h : Int) (.int r) kvs) = fun m => if m = h then r else tv kvs m := by
  funext m
  unfold tv
  rw [look_put]
  by_cases e : m = h
  · subst e; simp
  · rw [if_neg (by lia), if_neg e]
theorem tv_none {kvs : List (Int × V)} {j : Nat} (h : (j : Int) ∉ kvs.map (·.1)) : tv kvs j = (j : Int) := by
  unfold tv; rw [look_none.mpr h]; rfl
/-- a gate settled: an input put to a value -/
structure Settled (n b : Nat) (C : Ck) (i x : Nat) (v : Int) (C' : Ck) (H H' : Hp) (r : Int) : Prop where
  pre : C <+: C'
  wf : WF n C'
  few : FewAll C'
  at_ : CircAt H' C'
  sup : SupAt b H' C'
  fr : Fr' (SCS b) H H'
  vd : Vd C' r
  val : ∀ ρ, Vl ρ C' r = vl (upd ρ x (decide (0 < v))) C i
  sp : ∀ y, Sp C' r.natAbs y → Sp C i y ∧ y ≠ x
  len : C'.length ≤ C.length + 24
structure StI (n b : Nat) (C : Ck) (i x : Nat) (v : Int) (H0 : Hp) (L : List Nat) (tl tb : Nat) (done : List Nat) (C1 : Ck) (kvs : List (Int × V)) (m : Loc) (H : Hp) : Prop where
  pre : C <+: C1
  wf : WF n C1
  few : FewAll C1
  len : C1.length ≤ C.length + done.length
  at_ : CircAt H C1
  sup : SupN (fun t => t ≠ tb) b H C1
  fr : Fr' (SCS b) H0 H
  self : lk "self" m = some (.ref (b + 1))
  mx : lk "x" m = some (.int (x : Int))
  table : lk "table" m = some (.ref tb)
  gate : lk "gate" m = some (.int (i : Int))
  list : H[tl]? = some (.list (nats L))
  dict : H[tb]? = some (.dictI kvs)
  allI : allInt kvs
  xv : tv kvs x = v
  keys : ∀ k ∈ kvs.map (·.1), ∃ j : Nat, k = (j : Int) ∧ (j = x ∨ Sp C j x)
  klen : kvs.length ≤ 1 + done.length
  gd : ∀ j ∈ done, Gd C C1 x v (tv kvs) j
  had : ∀ j ∈ done, Sp C j x → j ≠ x → (j : Int) ∈ kvs.map (·.1)
section
variable {P : Params} {a : Addr} {l : List Int} {d n b : Nat} {H : Hp} {C : Ck} {Q : V → Hp → Prop}
theorem k_settled_ok {i x : Nat} {v : Int} (A : CircAt H C) (W : WF n C) (h4 : n ≤ 4) (B : CtrB b H) (Sx : SupAt b H C) (FA : FewAll C) (hxi : Sp C i x) (hne : i ≠ x) (hv : v = 1 ∨ v = -1) (h1 : 1 ≤ i) (hi : i < C.length) (hsm : C.length + 30 < lim)
    (q : ∀ r C' H', Settled n b C i x v C' H H' r → Q (.int r) H') : callA (TT P a l) (d + 4) 66 [.ref (b + 1), .int (i : Int), .int (x : Int), .int v] H Q := by
  rw [rd_k_settled_eq]
  unfold rd_k_settled
  have hlo := B.lo
  have hb5 := Sx.len
  have hlim : lim = 1048576 := rfl
  have hx := hxi.2
  have hv1 : v.natAbs = 1 := by rcases hv with rfl | rfl <;> rfl
  refine onO_ok rfl (newO_ok fun H1 F1 l1 e1 => ?_)
  have A1 := A.no F1
  have B1 := B.no F1
  have hvi : Vd C (i : Int) := ⟨h1, hi⟩
  refine onO_ok (m_below B1) (k_below_ok (d := d + 1) A1 W B1 hvi (FA i hi) fun L tl H2 F2 tl2 e2 L24 Ls Lnd Lm => over_list e2 ?_)
  refine forL_ok (fun rest m H' => ∃ done rs C1 kvs, rest = nats rs ∧ L = done ++ rs ∧ StI n b C i x v H L tl H.length done C1 kvs m H') ?_ ?_ _ _ _ ⟨[], L, C, putAll [] [((x : Int), V.int v)], rfl, rfl, ?_⟩ fun rest m' H' z => by obtain ⟨_, _, _, _, _, _, z⟩ := z; exact z.list
  · rintro vv rest m H3 k ⟨done, rs, C1, kvs, e3, e4, X⟩ kk
    obtain ⟨h, rs, rfl, rfl, rfl⟩ := map_cons_inv e3
    have hhL : h ∈ L := by rw [e4]; simp
    have hhr := (Lm h).mp hhL
    have hhl : h < C.length := hhr.lt W hi
    have hh1 : 1 ≤ h := (hhr.le W).2.1 h1
    have hhl1 : h < C1.length := Nat.lt_of_lt_of_le hhl X.pre.length_le
    have e5 : L = (done ++ [h]) ++ rs := by rw [e4]; simp
    have dlt : ∀ j ∈ done, j < h := fun j hj => by
      rw [e4] at Ls Lnd
      have a1 := (List.pairwise_append.mp Ls).2.2 j hj h (by (first | exact List.mem_cons_self .. | simp))
      have a2 := (List.nodup_append.mp Lnd).2.2 j hj h (by (first | exact List.mem_cons_self .. | simp))
      (first | exact Nat.lt_of_le_of_ne (by assumption) (by assumption) | lia)
    have dmem : ∀ j, Rc C h j → j ≠ h → j ∈ done := fun j hj hne' => by
      have hjL : j ∈ L := (Lm j).mpr (hhr.trans hj)
      have hle := (hj.le W).1
      rw [e4] at hjL Ls
      rcases List.mem_append.mp hjL with z | z
      · exact z
      · exfalso
        rcases List.mem_cons.mp z with z | z
        · exact hne' z
        · have := (List.pairwise_cons.mp (List.pairwise_append.mp Ls).2.1).1 j z
          lia
    have dlen : done.length + 1 ≤ 24 := by rw [e4] at L24; simp at L24; (first | exact Nat.lt_of_le_of_lt (Nat.le_add_right ..) (by assumption) | lia)
    have B3 := B.scs X.fr
    have hlen1 := X.len
    -- the turn's end where nothing is stored
    have same : (h = x ∨ ¬ Sp C h x) → ∀ H4, Fr' (SS b) H3 H4 → SupN (fun t => t ≠ H.length) b H4 C1 → H4[tl]? = some (.list (nats L)) ∧ k (("here", .int (h : Int)) :: m) H4 := fun hc H4 F4 S4 => by
      refine kk _ _ ⟨done ++ [h], rs, C1, kvs, rfl, e5, ⟨X.pre, X.wf, X.few, by simp; (first | exact Nat.le_succ_of_le (by assumption) | lia), X.at_.ss F4 hlo, S4, X.fr.trans (F4.mono fun j => SCS.of_SS), X.self, X.mx, X.table, X.gate, F4.get _ _ X.list (.inr (by unfold SS; have := F1.len; lia)),
        F4.get _ _ X.dict (.inr (by (first | exact Nat.ne_of_gt (by assumption) | (unfold SS; first | decide | (first | exact Nat.ne_of_gt (by assumption) | lia))))), X.allI, X.xv, X.keys, by have := X.klen; simp; (first | exact Nat.le_succ_of_le (by assumption) | lia), fun j hj => ?_, fun j hj hs hn => ?_⟩⟩
      · rcases List.mem_append.mp hj with hj | hj
        · exact X.gd j hj
        · rw [List.mem_singleton.mp hj]
          by_cases hx' : h = x
          · rw [hx']; exact gd_x W X.wf hx X.xv hv
          · have hn : ¬ Sp C h x := hc.resolve_left hx'
            refine gd_same W X.pre hh1 hhl hx hn fun mm hm => tv_none fun hk => ?_
            obtain ⟨j, ej, hj2⟩ := X.keys _ hk
            have : j = mm := by (first | exact (Int.ofNat_inj.mp (by assumption)).symm | lia)
            subst this
            rcases hj2 with rfl | hj2
            · exact hn ⟨hm, hx⟩
            · exact hn ⟨hm.trans hj2.1, hx⟩
      · rcases List.mem_append.mp hj with hj | hj
        · exact X.had j hj hs hn
        · rw [List.mem_singleton.mp hj] at hs hn
          exact absurd hs (hc.resolve_left hn)
    refine onO_ok X.mx (ne_ok (brQ_ok (fun t1 => ?_) fun t1 => ?_))
    · have hhx : h ≠ x := fun e => by subst e; simp at t1
      refine onO_ok X.mx (onO_ok X.self (onO_ok (m_support B3) (k_support_ok (g := (h : Int)) (d := d) X.at_ X.wf h4 B3 (fun t ht => by have := X.fr.len; have := lt_of_get X.dict; (first | exact Nat.ne_of_gt (Nat.lt_of_lt_of_le (by assumption) (by assumption)) | lia)) X.sup ⟨hh1, hhl1⟩ (X.few h hhl1) (by lia) fun t H4 F4 S4 tb4 _ K4 => ?_)))
      obtain ⟨skv, s1, s2, s3⟩ := id K4
      refine cmp_in s1 (brQ_ok (fun t2 => ?_) fun t2 => ?_)
      · have hsx : Sp C h x := by
          have : (x : Int) ∈ skv.map (·.1) := by
            rw [look_key]; exact Option.isSome_iff_exists.mp t2
          obtain ⟨y, ey, hy⟩ := (s3 _).mp this
          have : y = x := by (first | exact (Int.ofNat_inj.mp (by assumption)).symm | lia)
          subst this
          exact (Sp.ext W X.pre hhl).mp hy
        -- h is an and-gate
        have hCh : ∃ ps, C[h]? = some (.and ps) := by
          have h2 : 2 ≤ h := by
            by_cases z : h = 1
            · subst z
              exact absurd hsx (Sp.none (by rw [W.tru]; nofun) (fun ps e => by rw [W.tru] at e; cases e))
            · lia
          rcases gate_kind W h2 hhl with ⟨_, e⟩ | ⟨_, e⟩
          · exact absurd ((Sp.inp e).mp hsx).symm hhx
          · exact e
        obtain ⟨ps, hps⟩ := hCh
        have hps1 : C1[((h : Int)).natAbs]? = some (.and ps) := get_ext X.pre hps
        have hw := W.at hps
        have hwa := hw.ge
        have hwb := hw.two
        have hwc := hw.three
        have A4 := X.at_.ss F4 hlo
        have B4 := B3.ss F4
        have d4 : H4[H.length]? = some (.dictI kvs) := F4.get _ _ X.dict (.inr (by (first | exact Nat.ne_of_gt (by assumption) | (unfold SS; first | decide | (first | exact Nat.ne_of_gt (by assumption) | lia)))))
        refine onO_ok X.self (g_circuit B4 (onO_ok (m_all_of A4) (onO_ok X.self (g_circuit B4 (onO_ok (m_parts A4) (c_parts_ok (d := d + 2) A4 hps1 fun tp htp => over_tup htp ⟨by simp [partsG]; (first | exact Nat.lt_of_le_of_lt (by assumption) (by decide) | lia), ?_⟩))))))
        refine cmpL_map (f := fun v => match v with | .int p => .int (turn (tv kvs) p) | v => v) htp (fun vv hvv K hK => ?_) ?_
        · obtain ⟨p, hp, rfl⟩ := List.mem_map.mp hvv
          refine onO_ok (by rw [k_settled_sc0_self]; exact X.self) (onO_ok (m_turned B4) (onO_ok (by rw [k_settled_sc0_table]; exact X.table) (k_turned_ok (d := d + 2) B4 d4 (tv_eq X.allI _) ?_)))
          exact hK
        · have em : ((partsG (.and ps)).map V.int).map (fun v => match v with | .int p => V.int (turn (tv kvs) p) | v => v) = (ps.map (turn (tv kvs))).map V.int := by simp [partsG]
          rw [em]
          refine newO_ok fun H5 F5 l5 e5' => ?_
          have A5 := A4.no F5
          have gparts : ∀ p ∈ ps, Gd C C1 x v (tv kvs) p.natAbs := fun p hp => X.gd _ (dmem _ (.part hps hp) (by have := W.and_parts hps p hp; lia))
          have hvd : ∀ g ∈ ps.map (turn (tv kvs)), Vd C1 g := fun g hg' => by
            obtain ⟨p, hp, rfl⟩ := List.mem_map.mp hg'
            exact turn_vd (gparts p hp).vd
          refine c_all_of_ok (d := d + 1) A5 X.wf hvd (.inl e5') (by simpa using hw.three) (by lia) fun r C2 H6 ha A6 F6 => onO_ok X.table ?_
          have d6 : H6[H.length]? = some (.dictI kvs) := F6.get _ _ (F5.get _ _ d4 (.inr fun z => z)) (.inr (by (first | exact nSC (Nat.le_trans (by assumption) (Nat.le_trans (Nat.le_add_right _ 5) (Nat.le_of_lt (by assumption)))) | (unfold SC; first | decide | lia))))
          refine sSubI_ok d6 (by have := X.klen; lia) fun H7 s7 => ?_
          have F46 : Fr' (SCS b) H4 H6 := (F5.no.trans F6).mono fun j => SCS.of_SC
          have FH6 : Fr' (SCS b) H H6 := (X.fr.trans (F4.mono fun j => SCS.of_SS)).trans F46
          have FH7 : Fr' (SCS b) H H7 := FH6.set1 s7 d6 rfl (.inr (Nat.le_refl _))
          have F67 : Fr' (fun j => j = H.length) H6 H7 := Fr'.refl.set1 s7 d6 rfl (.inl rfl)
          have hH10 := A.hi
          have W2 := ha.wf X.wf hvd
          have hgn : Gd C C2 x v (tv (put (h : Int) (.int r) kvs)) h := by
            rw [tv_put]; exact gd_new W X.wf hps hsx (by rw [X.xv]; exact hv1) hhx gparts ha
          have hfew : Few C2 r.natAbs 24 := by
            have := gd_few (FA h hhl) hgn
            rw [tv_put] at this; simpa using this
          have S6 : SupN (fun t => t ≠ H.length) b H6 C1 := (S4.fr F5 (fun _ _ z => z)).sc F6 hlo
          have S7 : SupN (fun t => t ≠ H.length) b H7 C2 := by
            obtain ⟨kv, z1, z2, z3⟩ := S6.ext X.wf ha.pre.1
            refine ⟨kv, s7.get z1 (by (first | exact Nat.ne_of_lt (by assumption) | lia)), z2, fun k w hk => ?_⟩
            obtain ⟨j, t', y1, y2, y3, y4, kvt, y5, y6, y7⟩ := z3 k w hk
            refine ⟨j, t', y1, y2, y3, y4, kvt, s7.get y5 y4.2, y6, y7⟩
          refine kk _ _ ⟨done ++ [h], rs, C2, put (h : Int) (.int r) kvs, rfl, e5, ⟨X.pre.trans ha.pre.1, W2, fewAll_new X.wf X.few ha hfew, by have := ha.pre.2; simp; lia, A6.fr F67 (by lia) (by lia) (by lia) (by (first | exact Nat.ne_of_lt (by assumption) | lia)), S7, FH7, X.self, X.mx, X.table, X.gate, ?_, s7.at_, ?_, ?_, ?_, ?_, ?_, ?_⟩⟩
          · refine s7.get (F6.get _ _ (F5.get _ _ (F4.get _ _ X.list (.inr (by unfold SS; have := F1.len; lia))) (.inr fun z => z)) (.inr (by unfold SC; have := F1.len; lia))) (by lia)
          · intro k w hk
            rw [look_put] at hk
            by_cases z : k = (h : Int)
            · rw [if_pos z] at hk; cases hk; exact ⟨r, rfl⟩
            · rw [if_neg z] at hk; exact X.allI k w hk
          · rw [tv_put]; show (if x = h then r else tv kvs x) = v
            rw [if_neg (Ne.symm hhx)]; exact X.xv
          · intro k hk
            rcases put_keys.mp hk with rfl | hk
            · exact ⟨h, rfl, .inr hsx⟩
            · exact X.keys k hk
          · have := put_len (h : Int) (.int r) kvs; have := X.klen; simp; lia
          · intro j hj
            rcases List.mem_append.mp hj with hj | hj
            · rw [tv_put]; exact gd_mono X.wf W ha.pre.1 (dlt j hj) (X.gd j hj)
            · rw [List.mem_singleton.mp hj]; exact hgn
          · intro j hj hs hn
            rcases List.mem_append.mp hj with hj | hj
            · exact put_keys.mpr (.inr (X.had j hj hs hn))
            · rw [List.mem_singleton.mp hj]; exact put_keys.mpr (.inl rfl)
      · refine same (.inr fun hs => ?_) H4 F4 S4
        have : (x : Int) ∈ skv.map (·.1) := (s3 _).mpr ⟨x, rfl, (Sp.ext W X.pre hhl).mpr hs⟩
        obtain ⟨w, hw⟩ := look_key.mp this
        rw [hw] at t2; cases t2
    · have hhx : h = x := Int.ofNat.inj (show (h : Int) = (x : Int) by simpa using t1)
      exact brQ_ok nofun fun _ => same (.inl hhx) H3 .refl X.sup
  · rintro m H3 ⟨done, rs, C1, kvs, e3, e4, X⟩
    obtain rfl := map_nil_inv e3
    obtain rfl : L = done := by simpa using e4
    have hiL : i ∈ L := (Lm i).mpr (.refl _)
    have hg := X.gd i hiL
    obtain ⟨w, hw⟩ := look_key.mp (X.had i hiL hxi hne)
    obtain ⟨r, rfl⟩ := X.allI _ _ hw
    have er : tv kvs i = r := by unfold tv; rw [hw]; rfl
    refine onO_ok X.table (onO_ok X.gate (sub_I X.dict hw (q r C1 H3 ⟨X.pre, X.wf, X.few, X.at_, X.sup.mono fun _ _ _ => trivial, X.fr, er ▸ hg.vd, fun ρ => er ▸ hg.val ρ, er ▸ hg.sp, by have := X.len; lia⟩)))
  · have F12 := F1.trans F2
    refine ⟨List.prefix_refl _, W, FA, by simp, A.no F12, (Sx.mono fun t ht _ => Nat.ne_of_lt ht).fr F12 (fun _ _ z => z), F12.no, rfl, rfl, rfl, rfl, e2, F2.get _ _ e1 (.inr fun z => z), ?_, ?_, ?_, by (first | exact Nat.succ_pos _ | simp [putAll, put]), by simp, by simp⟩
    · intro k w hk
      simp only [putAll, put, look] at hk
      split at hk
      · cases hk; exact ⟨v, rfl⟩
      · cases hk
    · show tv (put (x : Int) (.int v) []) x = v
      rw [tv_put]; simp
    · intro k hk
      simp only [putAll, put, List.map_cons, List.map_nil, List.mem_singleton] at hk
      exact ⟨x, hk, .inl rfl⟩
end
end Mine
end
section
open PySem PySem.W PyProof.Rows
set_option maxRecDepth 100000
set_option linter.unusedVariables false
set_option autoImplicit false
namespace Mine
theorem SupN.set1 {N : Nat → Prop} {H H' : Hp} {C : Ck} {b f : Nat} {o : O} (x : SupN N b H C) (s : Set1 f o H H') (hN : ∀ t, N t → t ≠ f) (hf : f ≠ b + 5) : SupN N b H' C := by
  obtain ⟨kvs, e, nd, r⟩ := x
  refine ⟨kvs, s.get e (Ne.symm hf), nd, fun k v hk => ?_⟩
  obtain ⟨i, t, h1, h2, h3, h4, kv, h5, h6⟩ := r k v hk
  exact ⟨i, t, h1, h2, h3, h4, kv, s.get h5 (hN t h4.2), h6⟩
section
variable {P : Params} {a : Addr} {l : List Int} {d n b : Nat} {H : Hp} {C : Ck} {Q : V → Hp → Prop}
inductive PkA (b : Nat) (C : Ck) (H : Hp) (j : Nat) (ps : List Int) (rest : List V) (m : Loc) (H' : Hp) : Prop
  | mk (done rs : List Int) (kvs : List (Int × V)) (h0 : rest = rs.map V.int) (h1 : ps = done ++ rs) (h2 : Fr' (SS b) H H') (h3 : SupN (fun t => t ≠ H.length) b H' C) (h4 : lk "self" m = some (.ref (b + 1))) (h5 : lk "often" m = some (.ref H.length)) (h6 : H'[j]? = some (.list (ps.map V.int))) (h7 : H'[H.length]? = some (.dictI kvs)) (h8 : (kvs.map (·.1)).Nodup) (h9 : allInt kvs) (h10 : ∀ x, x ∈ kvs.map (·.1) ↔ ∃ y : Nat, x = (y : Int) ∧ ∃ p ∈ done, Sp C p.natAbs y) : PkA b C H j ps rest m H'
inductive PkB (b : Nat) (C : Ck) (H : Hp) (j t : Nat) (ps : List Int) (kvs skv : List (Int × V)) (rest : List V) (m : Loc) (H' : Hp) : Prop
  | mk (done2 rs2 : List Int) (kv : List (Int × V)) (h0 : rest = rs2.map V.int) (h1 : skv.map (·.1) = done2 ++ rs2) (h2 : Fr' (SS b) H H') (h3 : SupN (fun t => t ≠ H.length) b H' C) (h4 : lk "self" m = some (.ref (b + 1))) (h5 : lk "often" m = some (.ref H.length)) (h6 : H'[j]? = some (.list (ps.map V.int))) (h7 : H'[t]? = some (.dictI skv)) (h8 : H'[H.length]? = some (.dictI kv)) (h9 : (kv.map (·.1)).Nodup) (h10 : allInt kv) (h11 : ∀ x, x ∈ kv.map (·.1) ↔ x ∈ kvs.map (·.1) ∨ x ∈ done2) : PkB b C H j t ps kvs skv rest m H'
inductive PkC (H H3 : Hp) (srt : List Int) (kvs : List (Int × V)) (rest : List V) (m : Loc) (H' : Hp) : Prop
  | mk (done rs : List Int) (β : Int) (h0 : rest = rs.map V.int) (h1 : srt = done ++ rs) (h2 : H' = H3) (h3 : lk "often" m = some (.ref H.length)) (h4 : lk "best" m = some (.int β)) (h5 : ((β = 0 ∧ done = []) ∨ (β ∈ kvs.map (·.1)))) : PkC H H3 srt kvs rest m H'
theorem k_pick_ok {ps : List Int} {j : Nat} (A : CircAt H C) (W : WF n C) (h4 : n ≤ 4) (B : CtrB b H) (Sx : SupAt b H C) (FA : FewAll C) (hsm : C.length + 1 < lim) (hj : H[j]? = some (.list (ps.map V.int))) (hjb : j ≠ b + 5) (hp : ∀ p ∈ ps, Vd C p) (hs : ∃ x, ∃ p ∈ ps, Sp C p.natAbs x)
    (q : ∀ (x : Nat) H', Fr' (SS b) H H' → SupAt b H' C → (∃ p ∈ ps, Sp C p.natAbs x) → Q (.int (x : Int)) H') : callA (TT P a l) (d + 4) 78 [.ref (b + 1), .ref j] H Q := by
  rw [rd_k_pick_eq]
  unfold rd_k_pick
  have hlo := B.lo
  have hlim : lim = 1048576 := rfl
  have hjl := lt_of_get hj
  refine newDI_ok fun H1 F1 l1 e1 => over_list (F1.get _ _ hj (.inr fun z => z)) ?_
  refine forL_ok (PkA b C H j ps) ?_ ?_ _ _ _ ⟨[], ps, [], rfl, rfl, F1.no, (Sx.mono fun t ht _ => Nat.ne_of_lt ht).fr F1 (fun _ _ z => z), rfl, rfl, F1.get _ _ hj (.inr fun z => z), e1, by (first | exact List.nodup_nil | simp), (fun k w h => by cases h), by simp⟩
    fun rest m' H' x => by obtain ⟨_, _, _, _, _, _, _, _, _, x, _⟩ := x; exact x
  · rintro v rest m H2 k ⟨done, rs, kvs, e2, e3, F2, S2, m1, m2, j2, d2, nd, ai, ks⟩ kk
    obtain ⟨p, rs, rfl, rfl, rfl⟩ := map_cons_inv e2
    have hpm : p ∈ ps := by rw [e3]; simp
    have B2 := B.ss F2
    have A2 := A.ss F2 hlo
    refine onO_ok m1 (onO_ok (m_support B2) (k_support_ok (g := p) (d := d) A2 W h4 B2 (fun t ht => by have := lt_of_get d2; (first | exact Nat.ne_of_gt (Nat.lt_of_lt_of_le (by assumption) (by assumption)) | lia)) S2 (hp p hpm) (FA _ (hp p hpm).2) hsm fun t H3 F3 S3 t5 tN K3 => ?_))
    obtain ⟨skv, s1, s2, s3⟩ := id K3
    have d3 : H3[H.length]? = some (.dictI kvs) := F3.get _ _ d2 (.inr (by unfold SS; have := Sx.len; (first | exact Nat.ne_of_gt (by assumption) | lia)))
    have ksl : ∀ {kvs' : List (Int × V)}, (kvs'.map (·.1)).Nodup → (∀ x ∈ kvs'.map (·.1), ∃ y : Nat, x = (y : Int) ∧ ∃ p, Sp C p y) → kvs'.length ≤ n := fun nd' h => sup_len (i := 0) W nd' fun x hx => by
      obtain ⟨y, rfl, p', hy⟩ := h x hx
      exact ⟨y, rfl, hy.range W⟩
    refine over_dict s1 ?_
    refine forL_ok (PkB b C H j t ps kvs skv) ?_ ?_ _ _ _ ⟨[], skv.map (·.1), kvs, by simp, by (first | rfl | simp), F2.trans F3, S3, m1, m2, F3.get _ _ j2 (.inr hjb), s1, d3, nd, ai, by simp⟩
      fun rest m' H' x => by obtain ⟨_, _, _, _, _, _, _, _, _, _, x, _⟩ := x; exact x
    · rintro v rest m H4 k ⟨done2, rs2, kv, e4, e5, F4, S4, n1, n2, j4, t4, d4, nd4, ai4, ks4⟩ kk
      obtain ⟨x, rs2, rfl, rfl, rfl⟩ := map_cons_inv e4
      refine onO_ok n2 (onO_ok (mt_get d4) (get_ok d4 ?_))
      obtain ⟨r, hr⟩ : ∃ r, (look x kv).getD (.int 0) = .int r := by
        cases e : look x kv with
        | none => exact ⟨0, rfl⟩
        | some w => obtain ⟨r, rfl⟩ := ai4 _ _ e; exact ⟨r, rfl⟩
      rw [hr]
      have hkl : kv.length ≤ n := ksl nd4 fun z hz => by
        rcases (ks4 z).mp hz with hz | hz
        · obtain ⟨y, rfl, p', _, hy⟩ := (ks z).mp hz; exact ⟨y, rfl, _, hy⟩
        · obtain ⟨y, rfl, hy⟩ := (s3 z).mp (by rw [e5]; exact List.mem_append_left _ hz); exact ⟨y, rfl, _, hy⟩
      refine add_ok (onO_ok n2 (sSubI_ok d4 (by lia) fun H5 s5 => kk _ _ ⟨done2 ++ [x], rs2, _, rfl, by rw [e5]; simp, F4.set1 s5 d4 rfl (.inr (Nat.le_refl _)), S4.set1 s5 (fun _ z => z) (by have := Sx.len; (first | exact Nat.ne_of_gt (by assumption) | lia)), n1, n2, s5.get j4 (by (first | exact Nat.ne_of_lt (by assumption) | lia)), s5.get t4 tN, s5.at_, put_nodup nd4, fun k w hk => ?_, fun z => ?_⟩))
      · rw [look_put] at hk
        by_cases z : k = x
        · rw [if_pos z] at hk; cases hk; exact ⟨_, rfl⟩
        · rw [if_neg z] at hk; exact ai4 k w hk
      · rw [put_keys, ks4]; simp
        constructor
        · rintro (h | h | h)
          · exact .inr (.inr h)
          · exact .inl h
          · exact .inr (.inl h)
        · rintro (h | h | h)
          · exact .inr (.inl h)
          · exact .inr (.inr h)
          · exact .inl h
    · rintro m H4 ⟨done2, rs2, kv, e4, e5, F4, S4, n1, n2, j4, t4, d4, nd4, ai4, ks4⟩
      obtain rfl := map_nil_inv e4
      have e5 : skv.map (·.1) = done2 := by simpa using e5
      refine kk _ _ ⟨done ++ [p], rs, kv, rfl, by rw [e3]; simp, F4, S4, n1, n2, j4, d4, nd4, ai4, fun x => ?_⟩
      rw [ks4, ks, ← e5, s3]
      constructor
      · rintro (⟨y, e, p', hp', hy⟩ | ⟨y, e, hy⟩)
        · exact ⟨y, e, p', by (first | exact List.mem_append_left _ (by assumption) | simp [hp']), hy⟩
        · exact ⟨y, e, p, by (first | exact List.mem_append_right _ (List.mem_cons_self ..) | simp), hy⟩
      · rintro ⟨y, e, p', hp', hy⟩
        rcases List.mem_append.mp hp' with h | h
        · exact .inl ⟨y, e, p', h, hy⟩
        · rw [List.mem_singleton.mp h] at hy; exact .inr ⟨y, e, hy⟩
  · rintro m H2 ⟨done, rs, kvs, e2, e3, F2, S2, m1, m2, j2, d2, nd, ai, ks⟩
    obtain rfl := map_nil_inv e2
    obtain rfl : ps = done := by simpa using e3
    have hkl : kvs.length ≤ n := sup_len (i := 0) W nd fun x hx => by
      obtain ⟨y, rfl, p', _, hy⟩ := (ks x).mp hx
      exact ⟨y, rfl, hy.range W⟩
    refine onO_ok m2 (sorted_ok d2 (by lia) fun srt hsp hsl => newO_ok fun H3 F3 l3 e3' => over_list e3' ?_)
    have d3 := F3.get _ _ d2 (.inr fun z => z)
    refine forL_ok (PkC H H3 srt kvs) ?_ ?_ _ _ _ ⟨[], srt, 0, rfl, rfl, rfl, m2, rfl, .inl ⟨rfl, rfl⟩⟩
      fun rest m' H' x => by obtain ⟨_, _, _, _, _, rfl, _⟩ := x; exact e3'
    · rintro v rest m H4 k ⟨dn, rs, β, e4, e5, rfl, n1, n2, hβ⟩ kk
      obtain ⟨x, rs, rfl, rfl, rfl⟩ := map_cons_inv e4
      have hxk : x ∈ kvs.map (·.1) := hsp.mem_iff.mp (by rw [e5]; simp)
      obtain ⟨w, hw⟩ := look_key.mp hxk
      obtain ⟨rx, rfl⟩ := ai _ _ hw
      have fin : ∀ c : Bool, (c = false → β ∈ kvs.map (·.1)) → brQ c (fun kn55 : Loc → Hp → Prop => kn55 (("best", .int x) :: (("x", .int x) :: m)) H4) (fun kn55 : Loc → Hp → Prop => kn55 (("x", .int x) :: m) H4) fun m56 H57 => H57[H2.length]? = some (.list (srt.map V.int)) ∧ k m56 H57 := fun c hc => by
        refine brQ_ok (fun _ => kk _ _ ⟨dn ++ [x], rs, x, rfl, by rw [e5]; simp, rfl, n1, rfl, .inr hxk⟩) fun h => kk _ _ ⟨dn ++ [x], rs, β, rfl, by rw [e5]; simp, rfl, n1, n2, .inr (hc h)⟩
      refine onO_ok n2 (eq_ok (brQ_ok (fun t => fin true nofun) fun t => ?_))
      have hβk : β ∈ kvs.map (·.1) := hβ.resolve_left fun h => by rw [h.1] at t; cases t
      obtain ⟨w2, hw2⟩ := look_key.mp hβk
      obtain ⟨rb, rfl⟩ := ai _ _ hw2
      exact onO_ok n1 (sub_I d3 hw (onO_ok n1 (onO_ok n2 (sub_I d3 hw2 (gt_ok (fin _ fun _ => hβk))))))
    · rintro m H4 ⟨dn, rs, β, e4, e5, rfl, n1, n2, hβ⟩
      obtain rfl := map_nil_inv e4
      have e5 : srt = dn := by simpa using e5
      have hβk : β ∈ kvs.map (·.1) := hβ.resolve_left fun h => by
        obtain ⟨x, p, hp', hx⟩ := hs
        have : (x : Int) ∈ kvs.map (·.1) := (ks _).mpr ⟨x, rfl, p, hp', hx⟩
        have := hsp.mem_iff.mpr this
        rw [e5, h.2] at this; cases this
      obtain ⟨y, rfl, hy⟩ := (ks β).mp hβk
      exact onO_ok n2 (q y _ (F2.trans F3.no) ((S2.mono fun _ _ _ => trivial).fr F3 (fun _ _ z => z)) hy)
end
end Mine
end
section
open PySem PySem.W PyProof.Rows
set_option maxRecDepth 100000
set_option linter.unusedVariables false
set_option autoImplicit false
namespace Mine
theorem unp2_tup {H : Hp} {i : Nat} {x y : V} {f : V → V → Prop} (hi : H[i]? = some (.tuple [x, y])) (q : f x y) : unp H (.ref i) 2 fun us => cas1 us fun u us => cas1 us fun w us => cas0 us (f u w) := unp_tup hi rfl q
theorem Set1.immF {H H' : Hp} {i : Nat} {o x : O} (s : Set1 i o H H') (hx : H[i]? = some x) (hi : imm x = false) : Fr' (fun _ => True) H H' := Fr'.refl.set1 s hx hi (.inl trivial)
/-- a lot: its list at r, the dict of its inputs at s -/
noncomputable def LotRS (lo : Nat) (C : Ck) (H : Hp) (r s : Nat) (lot : List Int) : Prop :=
  lo ≤ r ∧ lo ≤ s ∧ lot ≠ [] ∧ H[r]? = some (.list (lot.map V.int)) ∧ ∃ kvs, H[s]? = some (.dictI kvs) ∧ (kvs.map (·.1)).Nodup ∧ ∀ x, x ∈ kvs.map (·.1) ↔ ∃ y : Nat, x = (y : Int) ∧ ∃ p ∈ lot, Sp C p.natAbs y
noncomputable def LotE (lo : Nat) (C : Ck) (Hb H : Hp) (u : V) (lot : List Int) : Prop := ∃ j r s : Nat, u = .ref j ∧ H[j]? = some (.tuple [.ref r, .ref s]) ∧ LotRS lo C Hb r s lot
theorem LotRS.fr {lo : Nat} {C : Ck} {S : Nat → Prop} {H H' : Hp} {r s : Nat} {lot : List Int} (x : LotRS lo C H r s lot) (F : Fr' S H H') (h : ∀ j, lo ≤ j → ¬ S j) : LotRS lo C H' r s lot :=
  by obtain ⟨a, b, c, d, kvs, e, f⟩ := x; exact ⟨a, b, c, F.get _ _ d (.inr (h _ a)), kvs, F.get _ _ e (.inr (h _ b)), f⟩
theorem LotE.fr {lo : Nat} {C : Ck} {S : Nat → Prop} {Hb H H' : Hp} {u : V} {lot : List Int} (x : LotE lo C Hb H u lot) (F : Fr' S H H') : LotE lo C Hb H' u lot :=
  let ⟨j, r, s, a, b, c⟩ := x; ⟨j, r, s, a, F.get _ _ b (.inl rfl), c⟩
theorem LotE.base {lo : Nat} {C : Ck} {S : Nat → Prop} {Hb Hb' H : Hp} {u : V} {lot : List Int} (x : LotE lo C Hb H u lot) (F : Fr' S Hb Hb') (h : ∀ j, lo ≤ j → ¬ S j) : LotE lo C Hb' H u lot :=
  let ⟨j, r, s, a, b, c⟩ := x; ⟨j, r, s, a, b, c.fr F h⟩
noncomputable def fstOf (H : Hp) (v : V) : V := match v with
  | .ref j => (match H[j]? with | some (.tuple (r :: _)) => r | _ => v)
  | _ => v
structure InI (b lo : Nat) (C : Ck) (ps : List Int) (p : Int) (Ha : Hp) (s0 o0 : Nat) (doneL rest : List (List Int)) (us : List V) (Ls : List (List Int)) (r : Nat) (Lc : List Int) (ul : Nat) (uall : List V) (m m6 : Loc) (H : Hp) : Prop where
  fr : Fr' (SS b) Ha H
  sup : SupN (fun t => t ≠ s0 ∧ t ≠ o0) b H C
  self : lk "self" m = some (.ref (b + 1))
  lot : lk "lot" m = some (.ref r)
  inner : lk "inner" m = some (.ref s0)
  others : lk "others" m = some (.ref o0)
  rs : LotRS lo C H r s0 Lc
  ol : H[o0]? = some (.list us)
  ul : H[ul]? = some (.list uall)
  ot : All2 (LotE lo C Ha H) us Ls
  perm : (Lc ++ Ls.flatten).Perm (p :: doneL.flatten)
  pw : (Ls ++ rest).Pairwise (Disj C)
  dj : ∀ X ∈ Ls, Disj C Lc X
  rlt : r < H.length
  ro : r ≠ o0
section
variable {P : Params} {a : Addr} {l : List Int} {d n b : Nat} {H : Hp} {C : Ck} {Q : V → Hp → Prop}
inductive GrA (b : Nat) (C : Ck) (H : Hp) (j : Nat) (ps : List Int) (rest : List V) (m : Loc) (H' : Hp) : Prop
  | mk (done rs : List Int) (lots : List (List Int)) (us : List V) (ul : Nat) (h0 : rest = rs.map V.int) (h1 : ps = done ++ rs) (h2 : Fr' (SS b) H H') (h3 : SupAt b H' C) (h4 : lk "self" m = some (.ref (b + 1))) (h5 : lk "lots" m = some (.ref ul)) (h6 : H.length ≤ ul) (h7 : H'[ul]? = some (.list us)) (h8 : H'[j]? = some (.tuple (ps.map V.int))) (h9 : All2 (LotE H.length C H' H') us lots) (h10 : lots.length ≤ done.length) (h11 : Lots C done lots) : GrA b C H j ps rest m H'
inductive GrB (b : Nat) (C : Ck) (H Ha : Hp) (ps : List Int) (p : Int) (k4 k6 ul : Nat) (us : List V) (lots : List (List Int)) (m : Loc) (rest : List V) (mm : Loc) (H' : Hp) : Prop
  | mk (doneU restU : List V) (doneL restL : List (List Int)) (os : List V) (Ls : List (List Int)) (r : Nat) (Lc : List Int) (h0 : rest = restU) (h1 : us = doneU ++ restU) (h2 : lots = doneL ++ restL) (h3 : All2 (LotE H.length C Ha Ha) restU restL) (h4 : Ls.length ≤ doneL.length) (h5 : Lc.length ≤ 1 + doneL.flatten.length) (h6 : InI b H.length C ps p Ha k4 k6 doneL restL os Ls r Lc ul us mm m H') : GrB b C H Ha ps p k4 k6 ul us lots m rest mm H'
theorem k_groups_ok {ps : List Int} {j : Nat} (A : CircAt H C) (W : WF n C) (h4 : n ≤ 4) (B : CtrB b H) (Sx : SupAt b H C) (FA : FewAll C) (hsm : C.length + 1 < lim) (hj : H[j]? = some (.tuple (ps.map V.int))) (hp : ∀ p ∈ ps, Vd C p) (h3 : ps.length ≤ 3)
    (q : ∀ (lots : List (List Int)) (ts : List V) t H', Fr' (SS b) H H' → SupAt b H' C → H.length ≤ t → H'[t]? = some (.list ts) → Lots C ps lots → All2 (fun v lot => ∃ r : Nat, v = .ref r ∧ H.length ≤ r ∧ H'[r]? = some (.list (lot.map V.int))) ts lots → Q (.ref t) H') :
    callA (TT P a l) (d + 4) 71 [.ref (b + 1), .ref j] H Q := by
  rw [rd_k_groups_eq]
  unfold rd_k_groups
  have hlo := B.lo
  have hb5 := Sx.len
  have hlim : lim = 1048576 := rfl
  refine newO_ok fun H1 F1 l1 e1 => over_tup (F1.get _ _ hj (.inl rfl)) ?_
  refine forL_ok (GrA b C H j ps) ?_ ?_ _ _ _ ⟨[], ps, [], [], H.length, rfl, rfl, F1.no, Sx.fr F1 (fun _ _ z => z), rfl, rfl, Nat.le_refl _, e1, F1.get _ _ hj (.inl rfl), .nil, by simp, by simp, by (first | rfl | simp), .nil⟩
    fun rest m' H' x => by obtain ⟨_, _, _, _, _, _, _, _, _, _, _, _, _, x, _⟩ := x; exact x
  · rintro v rest m Ha k ⟨done, rs, lots, us, ul, e2, e3, F2, S2, m1, m2, ul2, u2, j2, al, ll, hL⟩ kk
    obtain ⟨p, rs, rfl, rfl, rfl⟩ := map_cons_inv e2
    have hpm : p ∈ ps := by rw [e3]; simp
    refine newO_ok fun H3 F3 l3 e3' => ?_
    have B3 := (B.ss F2).no F3
    have A3 := (A.ss F2 hlo).no F3
    have S3 := S2.fr F3 (fun _ _ z => z)
    refine onO_ok m1 (onO_ok (m_support B3) (k_support_ok (g := p) (d := d) A3 W h4 B3 (fun _ _ => trivial) S3 (hp p hpm) (FA _ (hp p hpm).2) hsm fun t H4 F4 S4 t5 _ K4 => ?_))
    obtain ⟨skv, s1, s2, s3⟩ := id K4
    have hsl : skv.length ≤ n := sup_len (i := 0) W s2 fun x hx => by
      obtain ⟨y, rfl, hy⟩ := (s3 x).mp hx
      exact ⟨y, rfl, hy.range W⟩
    have hlen2 := F2.len
    have hlen4 := F4.len
    refine dct_ok s1 (by lia) (newO_ok fun H5 F5 l5 e5 => newO_ok fun H6 F6 l6 e6 => unp2_tup e6 (newO_ok fun H7 F7 l7 e7 => ?_))
    have Fa4 : Fr' (SS b) Ha H4 := F3.no.trans F4
    have F57 : Fr' NoS H4 H7 := (F5.trans F6).trans F7
    have Fa7 : Fr' (SS b) Ha H7 := Fa4.trans F57.no
    have ulH7 : H7[ul]? = some (.list us) := Fa7.get _ _ u2 (.inr (by unfold SS; first | decide | lia))
    have nSS : ∀ j, H.length ≤ j → ¬ SS b j := fun j hj => by unfold SS; first | decide | lia
    refine onO_ok m2 (over_list ulH7 ?_)
    refine forL_ok (GrB b C H Ha ps p H4.length H6.length ul us lots m) ?_ ?_ _ _ _ ⟨[], us, [], lots, [], [], Ha.length, [p], rfl, rfl, rfl, al, by simp, by (first | exact Nat.succ_pos _ | simp), ?_⟩
      fun rest m' H' x => by obtain ⟨_, _, _, _, _, _, _, _, _, _, _, _, _, _, x⟩ := x; exact x.ul
    · rintro u rest mm H8 k ⟨doneU, restU, doneL, restL, os, Ls, r, Lc, rfl, e8, e9, aR, lLs, lLc, X⟩ kk
      obtain ⟨late, restL, rfl, hu, aR2⟩ : ∃ y ys, restL = y :: ys ∧ LotE H.length C Ha Ha u y ∧ All2 (LotE H.length C Ha Ha) rest ys := by
        cases aR with
        | cons h1 h2 => exact ⟨_, _, rfl, h1, h2⟩
      obtain ⟨ju, ru, su, rfl, tu, lu⟩ := hu
      have tu8 := X.fr.get _ _ tu (.inl rfl)
      have lu8 := lu.fr X.fr nSS
      obtain ⟨lu1, lu2, lu3, lu4, lkv, lu5, lu6, lu7⟩ := id lu8
      obtain ⟨xr1, xr2, xr3, xr4, ikv, xr5, xr6, xr7⟩ := id X.rs
      have hll : lkv.length ≤ n := sup_len (i := 0) W lu6 fun x hx => by
        obtain ⟨y, rfl, p', _, hy⟩ := (lu7 x).mp hx
        exact ⟨y, rfl, hy.range W⟩
      have hil : ikv.length ≤ n := sup_len (i := 0) W xr6 fun x hx => by
        obtain ⟨y, rfl, p', _, hy⟩ := (xr7 x).mp hx
        exact ⟨y, rfl, hy.range W⟩
      have su_lt : su < Ha.length := by obtain ⟨_, _, _, _, kv, z, _⟩ := id lu; exact lt_of_get z
      have ru_lt : ru < Ha.length := by obtain ⟨_, _, _, z, _⟩ := id lu; exact lt_of_get z
      have e8' : us = (doneU ++ [V.ref ju]) ++ rest := by rw [e8]; simp
      have e9' : lots = (doneL ++ [late]) ++ restL := by rw [e9]; simp
      have a3 : ∀ {m : Loc}, lk "x" m = lk "x" m := rfl
      refine unp2_tup tu8 (over_dict lu5 ⟨by simp; lia, ?_⟩)
      -- the comprehension
      refine cmpL_ok (ok := fun H' => H'[su]? = some (.dictI lkv)) (fun rest acc H' => ∃ dn, lkv.map (fun p => V.int p.1) = dn ++ rest ∧ H' = H8 ∧ acc.length ≤ dn.length ∧ (acc ≠ [] ↔ ∃ x : Int, V.int x ∈ dn ∧ x ∈ ikv.map (·.1))) ?_ ?_ _ _ _ ⟨[], rfl, rfl, by simp, by simp⟩ fun rest acc H' x => by obtain ⟨_, _, rfl, _⟩ := x; exact lu5
      · rintro w rest acc H9 K ⟨dn, f1, rfl, f2, f3⟩ kk2
        obtain ⟨pk, hpk, rfl⟩ : ∃ pk ∈ lkv, V.int pk.1 = w := by
          have : w ∈ lkv.map (fun p => V.int p.1) := by rw [f1]; simp
          obtain ⟨pk, h, e⟩ := List.mem_map.mp this; exact ⟨pk, h, e⟩
        refine onO_ok (by rw [k_groups_sc0_inner]; exact X.inner) (cmp_in xr5 ?_)
        cases hc : (look pk.1 ikv).isSome with
        | true =>
          refine kk2 _ _ ⟨dn ++ [V.int pk.1], by rw [f1]; simp, rfl, by simp; (first | assumption | lia), ⟨fun _ => ⟨pk.1, by (first | exact List.mem_append_right _ (List.mem_cons_self ..) | simp), look_key.mpr (Option.isSome_iff_exists.mp hc)⟩, fun _ => by simp⟩⟩
        | false =>
          refine kk2 _ _ ⟨dn ++ [V.int pk.1], by rw [f1]; simp, rfl, by simp; (first | exact Nat.le_succ_of_le (by assumption) | lia), ?_⟩
          show acc ≠ [] ↔ _
          rw [f3]
          have hn : pk.1 ∉ ikv.map (·.1) := fun h => by
            obtain ⟨v, hv⟩ := look_key.mp h
            rw [hv] at hc; cases hc
          constructor
          · rintro ⟨x, h1, h2⟩; exact ⟨x, List.mem_append_left _ h1, h2⟩
          · rintro ⟨x, h1, h2⟩
            rcases List.mem_append.mp h1 with h1 | h1
            · exact ⟨x, h1, h2⟩
            · have : x = pk.1 := by simpa using h1
              rw [this] at h2; exact absurd h2 hn
      · rintro acc H9 ⟨dn, f1, rfl, f2, f3⟩
        have f1 : lkv.map (fun p => V.int p.1) = dn := by simpa using f1
        have hdl : dn.length = lkv.length := by rw [← f1]; simp
        refine newO_ok fun H10 F10 l10 e10 => len_ok (n := acc.length) e10 (by (first | rfl | simp [lenOf])) (by lia) (gt_ok ?_)
        have X10 := X.fr.trans F10.no
        have ot10 : All2 (LotE H.length C Ha H10) os Ls := X.ot.imp fun _ _ z => z.fr F10
        have rs10 := X.rs.fr F10 (fun _ _ z => z)
        have sup10 := X.sup.fr F10 (fun _ _ z => z)
        have ol10 := F10.get _ _ X.ol (.inr fun z => z)
        have ul10 := F10.get _ _ X.ul (.inr fun z => z)
        have meet : acc ≠ [] ↔ ∃ y : Nat, (∃ p ∈ late, Sp C p.natAbs y) ∧ ∃ p ∈ Lc, Sp C p.natAbs y := by
          rw [f3, ← f1]
          constructor
          · rintro ⟨x, h1, h2⟩
            obtain ⟨pk, h, e⟩ := List.mem_map.mp h1
            cases e
            obtain ⟨y, e1, h5⟩ := (lu7 pk.1).mp (List.mem_map_of_mem h)
            obtain ⟨y', e2, h6⟩ := (xr7 pk.1).mp h2
            obtain rfl : y = y' := by lia
            exact ⟨y, h5, h6⟩
          · rintro ⟨y, h5, h6⟩
            have h7 := (lu7 (y : Int)).mpr ⟨y, rfl, h5⟩
            obtain ⟨pk, h, e⟩ := List.mem_map.mp h7
            exact ⟨y, List.mem_map.mpr ⟨pk, h, by rw [← e]⟩, (xr7 _).mpr ⟨y, rfl, h6⟩⟩
        have pwr := X.pw
        have aLs := List.pairwise_append.mp pwr
        refine brQ_ok (fun t1 => ?_) fun t1 => ?_
        · -- they meet: the lots are one
          obtain ⟨_, _, _, lua, lkv', lub, _⟩ := lu8.fr F10 (fun _ _ z => z)
          have r10 := rs10.2.2.2.1
          have hlc : late.length + Lc.length < lim := by
            have h1 := hL.2.1.length_eq
            have h2 : lots.flatten.length = doneL.flatten.length + (late.length + restL.flatten.length) := by rw [e9]; simp
            have h3 : ps.length = done.length + (1 + rs.length) := by rw [e3]; simp; lia
            lia
          refine onO_ok X.lot (cat_ok lua r10 (by simpa using hlc) (newO_ok fun H11 F11 l11 e11 => onO_ok X.inner ?_))
          obtain ⟨_, _, _, _, ikv', i11, i12, i13⟩ := rs10.fr F11 (fun _ _ z => z)
          have lu11 := F11.get _ _ (F10.get _ _ lu5 (.inr fun z => z)) (.inr fun z => z)
          have eik : ikv' = ikv := by
            have := F11.get _ _ (F10.get _ _ xr5 (.inr fun z => z)) (.inr fun z => z)
            rw [i11] at this; cases this; rfl
          subst eik
          refine onO_ok (mt_upd i11) (upd_ok i11 lu11 (by lia) (by lia) fun H12 s12 => drp_none (kk _ _ ⟨doneU ++ [V.ref ju], rest, doneL ++ [late], restL, os, Ls, H10.length, late ++ Lc, rfl, e8', e9', aR2, by simp; (first | exact Nat.le_succ_of_le (by assumption) | lia), by simp only [List.flatten_append, List.flatten_cons, List.flatten_nil, List.length_append, List.length_nil]; lia, ?_⟩))
          have hs0 : H4.length ≠ H10.length := by have := lt_of_get xr5; have := F10.len; (first | exact Nat.ne_of_lt (Nat.lt_of_lt_of_le (by assumption) (by assumption)) | lia)
          refine ⟨(X10.trans F11.no).set1 s12 i11 rfl (.inr (by lia)), (sup10.fr F11 (fun _ _ z => z)).set1 s12 (fun _ z => z.1) (by lia), X.self, rfl, X.inner, X.others, ⟨by have := X10.len; (first | exact Nat.le_trans (by assumption) this | lia), by (first | assumption | lia), ?_, ?_, _, s12.at_, putAll_nodup i12, fun x => ?_⟩, s12.get (F11.get _ _ ol10 (.inr fun z => z)) (by lia), s12.get (F11.get _ _ ul10 (.inr fun z => z)) ?_, ?_, ?_, ?_, ?_, ?_, ?_⟩
          · simp; intro z; exact absurd z lu3
          · rw [s12.get e11 hs0.symm]; simp
          · rw [putAll_keys, i13, lu7]
            constructor
            · rintro (⟨y, e, p', h1, h2⟩ | ⟨y, e, p', h1, h2⟩)
              · exact ⟨y, e, p', List.mem_append_right _ h1, h2⟩
              · exact ⟨y, e, p', List.mem_append_left _ h1, h2⟩
            · rintro ⟨y, e, p', h1, h2⟩
              rcases List.mem_append.mp h1 with h1 | h1
              · exact .inr ⟨y, e, p', h1, h2⟩
              · exact .inl ⟨y, e, p', h1, h2⟩
          · intro z; have := lt_of_get u2; lia
          · exact ot10.imp fun _ _ z => (z.fr F11).fr (s12.immF i11 rfl)
          · refine List.Perm.trans ?_ ((List.Perm.append_left late X.perm).trans ?_)
            · rw [List.append_assoc]
            · simp only [List.flatten_append, List.flatten_cons, List.flatten_nil, List.append_nil]
              refine (List.perm_append_comm).trans ?_
              simp
          · exact pwr.sublist (List.Sublist.append (List.Sublist.refl _) (List.sublist_cons_self _ _))
          · intro Y hY p1 hp1
            rcases List.mem_append.mp hp1 with h | h
            · exact (aLs.2.2 Y hY late (by (first | exact List.mem_cons_self .. | simp))).symm p1 h
            · exact X.dj Y hY p1 h
          · rw [s12.len]; exact lt_of_get e11
          · have := lt_of_get ol10; (first | exact Nat.ne_of_gt (by assumption) | lia)
        · -- they do not
          have hno : ¬ (acc ≠ []) := fun h => by
            have : 0 < acc.length := List.length_pos_iff.mpr h
            have := of_decide_eq_false t1
            lia
          refine onO_ok X.others (onO_ok (mt_app ol10) (newO_ok fun H11 F11 l11 e11 => ?_))
          have ol11 := F11.get _ _ ol10 (.inr fun z => z)
          have hol : os.length < lim := by have := X.ot.len; have h5 : doneL.length ≤ lots.length := (by rw [e9]; simp); have : ps.length = done.length + (1 + rs.length) := (by rw [e3]; simp; lia); lia
          refine app_ok ol11 hol fun H12 s12 => drp_none (kk _ _ ⟨doneU ++ [V.ref ju], rest, doneL ++ [late], restL, os ++ [.ref H10.length], Ls ++ [late], r, Lc, rfl, e8', e9', aR2, by simp; (first | assumption | lia), by simp only [List.flatten_append, List.flatten_cons, List.flatten_nil, List.length_append, List.length_nil]; lia, ?_⟩)
          have rs11 := rs10.fr F11 (fun _ _ z => z)
          have o_ne : H6.length ≠ H4.length := by lia
          refine ⟨(X10.trans F11.no).set1 s12 ol11 rfl (.inr (by lia)), (sup10.fr F11 (fun _ _ z => z)).set1 s12 (fun _ z => z.2) (by lia), X.self, X.lot, X.inner, X.others, ?_, s12.at_, s12.get (F11.get _ _ ul10 (.inr fun z => z)) ?_, ?_, ?_, ?_, ?_, ?_, ?_⟩
          · obtain ⟨y1, y2, y3, y4, kv, y5, y6⟩ := rs11
            exact ⟨y1, y2, y3, s12.get y4 X.ro, kv, s12.get y5 o_ne.symm, y6⟩
          · intro z; have := lt_of_get u2; lia
          · exact (ot10.imp fun _ _ z => (z.fr F11).fr (s12.immF ol11 rfl)).snoc ⟨_, ru, su, rfl, s12.get e11 (by have := lt_of_get ol10; (first | exact Nat.ne_of_gt (by assumption) | lia)), lu⟩
          · simp only [List.flatten_append, List.flatten_cons, List.flatten_nil, List.append_nil]
            rw [← List.append_assoc]
            exact (X.perm.append_right late)
          · rw [List.append_assoc]; exact pwr
          · intro Y hY
            rcases List.mem_append.mp hY with h | h
            · exact X.dj Y h
            · rw [List.mem_singleton.mp h]
              intro p1 hp1 q1 hq1 x hx hx'
              exact hno (meet.mpr ⟨x, ⟨q1, hq1, hx'⟩, p1, hp1, hx⟩)
          · rw [s12.len]; have := X.rlt; have := F10.len; have := F11.len; (first | exact Nat.le_trans (by assumption) (Nat.le_trans (by assumption) (by assumption)) | lia)
          · exact X.ro
    · rintro mm H8 ⟨doneU, restU, doneL, restL, os, Ls, r, Lc, rfl, e8, e9, aR, lLs, lLc, X⟩
      obtain rfl : restL = [] := by cases aR; rfl
      obtain rfl : lots = doneL := by simpa using e9
      refine onO_ok X.others (onO_ok X.lot (onO_ok X.inner (newO_ok fun H9 F9 l9 e9' => newO_ok fun H10 F10 l10 e10 => cat_ok (F10.get _ _ (F9.get _ _ X.ol (.inr fun z => z)) (.inr fun z => z)) e10 ?_ (newO_ok fun H11 F11 l11 e11 => ?_))))
      · have := X.ot.len
        have : ps.length = done.length + (1 + rs.length) := by rw [e3]; simp; lia
        simp; lia
      · have F811 : Fr' NoS H8 H11 := (F9.trans F10).trans F11
        have Fa11 : Fr' (SS b) Ha H11 := X.fr.trans F811.no
        have ua11 := Fa11.len
        refine kk _ _ ⟨done ++ [p], rs, Ls ++ [Lc], os ++ [.ref H8.length], H10.length, rfl, by rw [e3]; simp, F2.trans Fa11, (X.sup.mono fun _ _ _ => trivial).fr F811 (fun _ _ z => z), X.self, rfl, ?_, e11, Fa11.get _ _ j2 (.inl rfl), ?_, by simp; (first | exact Nat.le_trans (by assumption) (by assumption) | lia), ?_, ?_, ?_⟩
        · have := X.fr.len; lia
        · exact (X.ot.imp fun _ _ z => (z.fr F811).base Fa11 nSS).snoc ⟨_, r, H4.length, rfl, F11.get _ _ (F10.get _ _ e9' (.inl rfl)) (.inl rfl), X.rs.fr F811 (fun _ _ z => z)⟩
        · intro lot hlot
          rcases List.mem_append.mp hlot with h | h
          · obtain ⟨_, _, _, _, _, _, z⟩ := X.ot.mem h
            exact z.2.2.1
          · rw [List.mem_singleton.mp h]; exact X.rs.2.2.1
        · simp only [List.flatten_append, List.flatten_cons, List.flatten_nil, List.append_nil]
          refine List.perm_append_comm.trans (X.perm.trans ?_)
          exact (List.Perm.cons p hL.2.1).trans (List.perm_append_singleton p done).symm
        · rw [List.pairwise_append]
          exact ⟨(List.pairwise_append.mp X.pw).1, by simp, fun Y hY Z hZ => by rw [List.mem_singleton.mp hZ]; exact (X.dj Y hY).symm⟩
    · refine ⟨Fa7, (S4.mono fun t ht _ => ⟨by (first | exact Nat.ne_of_lt (by assumption) | lia), by lia⟩).fr F57 (fun _ _ z => z), m1, rfl, rfl, rfl, ⟨hlen2, by lia, by (first | exact List.cons_ne_nil _ _ | simp), F57.get _ _ (F4.get _ _ e3' (.inr (nSS _ hlen2))) (.inr fun z => z), skv, (F6.trans F7).get _ _ e5 (.inr fun z => z), s2, fun x => ?_⟩, e7, ulH7, .nil, by (first | rfl | simp), by (first | exact hL.2.2 | simpa using hL.2.2), by simp, by lia, by lia⟩
      rw [s3]; simp
  · rintro m H2 ⟨done, rs, lots, us, ul, e2, e3, F2, S2, m1, m2, ul2, u2, j2, al, ll, hL⟩
    obtain rfl := map_nil_inv e2
    obtain rfl : ps = done := by simpa using e3
    refine onO_ok m2 (over_list u2 ⟨by have := al.len; lia, ?_⟩)
    refine cmpL_map (f := fstOf H2) u2 (fun v hv k h => ?_) (newO_ok fun H3 F3 l3 e3' => q lots _ _ _ (F2.trans F3.no) (S2.fr F3 (fun _ _ z => z)) F2.len e3' hL (al.map fun u lot z => ?_))
    · obtain ⟨jj, r, s, rfl, t1, _⟩ : ∃ j r s : Nat, v = .ref j ∧ H2[j]? = some (.tuple [.ref r, .ref s]) ∧ True := by
        have : ∀ {us : List V} {lots : List (List Int)}, All2 (LotE H.length C H2 H2) us lots → v ∈ us → ∃ j r s : Nat, v = .ref j ∧ H2[j]? = some (.tuple [.ref r, .ref s]) ∧ True := by
          intro us lots al hv
          induction al with
          | nil => cases hv
          | cons a _ ih =>
            rcases List.mem_cons.mp hv with rfl | hv
            · obtain ⟨j, r, s, h1, h2, _⟩ := a; exact ⟨j, r, s, h1, h2, trivial⟩
            · exact ih hv
        exact this al hv
      refine bindN_ok t1 rfl (onO_ok rfl ?_)
      have : fstOf H2 (.ref jj) = .ref r := by unfold fstOf; simp only [t1]
      rw [this] at h; exact h
    · obtain ⟨jj, r, s, rfl, t1, y1, y2, y3, y4, _⟩ := z
      exact ⟨r, by unfold fstOf; simp only [t1], y1, F3.get _ _ y4 (.inr fun z => z)⟩
end
end Mine
end
section
open PySem PySem.W PyProof.Rows
set_option maxRecDepth 100000
set_option linter.unusedVariables false
set_option autoImplicit false
namespace Mine
noncomputable def SB (b : Nat) : Nat → Prop := fun j => SC j ∨ j = b + 3 ∨ j = b + 4 ∨ j = b + 5
theorem nSB {b u : Nat} (hb : 10 ≤ b) (h : b + 5 < u) : ¬ SB b u := by
  rintro (z | rfl | rfl | rfl)
  · exact nSC (Nat.le_trans hb (Nat.le_trans (Nat.le_add_right b 5) (Nat.le_of_lt h))) z
  · exact absurd (Nat.lt_of_add_lt_add_left h) (by decide)
  · exact absurd (Nat.lt_of_add_lt_add_left h) (by decide)
  · exact Nat.lt_irrefl _ h
theorem nSB_lo {b u : Nat} (hu : 10 ≤ u) (h : u < b) : ¬ SB b u := by
  rintro (z | rfl | rfl | rfl)
  · exact nSC hu z
  all_goals exact Nat.not_lt.mpr (Nat.le_add_right ..) h
noncomputable def KnAt (n b : Nat) (H : Hp) (C : Ck) : Prop := ∃ kvs, H[b + 3]? = some (.dictI kvs) ∧ (kvs.map (·.1)).Nodup ∧ ∀ k v, look k kvs = some v → ∃ i c : Nat, k = (i : Int) ∧ 1 ≤ i ∧ i < C.length ∧ v = .int (c : Int) ∧ OwnG n C (i : Int) c
noncomputable def PlAt (N : Nat → Prop) (n b : Nat) (H : Hp) (C : Ck) : Prop := ∃ kvs, H[b + 4]? = some (.dictI kvs) ∧ (kvs.map (·.1)).Nodup ∧ ∀ k v, look k kvs = some v → ∃ (g t u : Nat) (kd : Str) (qs : List Int), k = (g : Int) ∧ 1 ≤ g ∧ g < C.length ∧ v = .ref t ∧ H[t]? = some (.tuple [.str kd, .ref u]) ∧ (b + 5 < u ∧ N u) ∧ H[u]? = some (.list (qs.map V.int)) ∧ PlanOk n C g kd qs
noncomputable def HasPl (N : Nat → Prop) (b : Nat) (H : Hp) (g : Nat) (qs : List Int) : Prop := ∃ (kvs : List (Int × V)) (t u : Nat) (kd : Str), H[b + 4]? = some (.dictI kvs) ∧ look (g : Int) kvs = some (.ref t) ∧ H[t]? = some (.tuple [.str kd, .ref u]) ∧ (b + 5 < u ∧ N u) ∧ H[u]? = some (.list (qs.map V.int))
noncomputable def Kn (b : Nat) (H : Hp) (i : Nat) : Prop := ∃ kvs v, H[b + 3]? = some (.dictI kvs) ∧ look (i : Int) kvs = some v
structure Ctr (N : Nat → Prop) (n b : Nat) (H : Hp) (C : Ck) : Prop where
  at_ : CircAt H C
  wf : WF n C
  four : n ≤ 4
  few : FewAll C
  B : CtrB b H
  sup : SupAt b H C
  known : KnAt n b H C
  plans : PlAt N n b H C
  inputs : ∃ xs, H[b + 2]? = some (.tuple xs) ∧ xs.length = n
structure Keep (N : Nat → Prop) (b : Nat) (H H' : Hp) : Prop where
  kn : ∀ i, Kn b H i → Kn b H' i
  pl : ∀ g qs, HasPl N b H g qs → HasPl N b H' g qs
theorem Keep.refl {N : Nat → Prop} {b : Nat} {H : Hp} : Keep N b H H := ⟨fun _ h => h, fun _ _ h => h⟩
theorem Keep.trans {N : Nat → Prop} {b : Nat} {H H1 H2 : Hp} (x : Keep N b H H1) (y : Keep N b H1 H2) : Keep N b H H2 := ⟨fun i h => y.kn i (x.kn i h), fun g qs h => y.pl g qs (x.pl g qs h)⟩
theorem HasPl.uniq {N : Nat → Prop} {b : Nat} {H : Hp} {g : Nat} {qs qs' : List Int} (x : HasPl N b H g qs) (y : HasPl N b H g qs') : qs = qs' := by
  obtain ⟨k1, t1, u1, d1, a1, a2, a3, _, a5⟩ := x
  obtain ⟨k2, t2, u2, d2, b1, b2, b3, _, b5⟩ := y
  rw [a1] at b1; cases b1
  rw [a2] at b2; cases b2
  rw [a3] at b3; cases b3
  rw [a5] at b5
  have := O.list.inj (Option.some.inj b5)
  have e : ints? (qs.map V.int) = ints? (qs'.map V.int) := by rw [this]
  rw [ints_map, ints_map] at e; exact Option.some.inj e
section
variable {N : Nat → Prop} {n b : Nat} {H H' : Hp} {C C' : Ck} {S : Nat → Prop}
theorem KnAt.fr (x : KnAt n b H C) (F : Fr' S H H') (h : ¬ S (b + 3)) : KnAt n b H' C := by obtain ⟨kvs, e, r⟩ := x; exact ⟨kvs, F.get _ _ e (.inr h), r⟩
theorem KnAt.ext (W : WF n C) (e : C <+: C') (x : KnAt n b H C) : KnAt n b H C' := by
  obtain ⟨kvs, h, nd, r⟩ := x
  refine ⟨kvs, h, nd, fun k v hk => ?_⟩
  obtain ⟨i, c, h1, h2, h3, h4, h5⟩ := r k v hk
  exact ⟨i, c, h1, h2, Nat.lt_of_lt_of_le h3 e.length_le, h4, (ownG_ext (p := (i : Int)) W e ⟨h2, h3⟩).mpr h5⟩
theorem PlAt.fr (x : PlAt N n b H C) (F : Fr' S H H') (h : ¬ S (b + 4)) (h2 : ∀ u, b + 5 < u → ¬ S u) : PlAt N n b H' C := by
  obtain ⟨kvs, e, nd, r⟩ := x
  refine ⟨kvs, F.get _ _ e (.inr h), nd, fun k v hk => ?_⟩
  obtain ⟨g, t, u, kd, qs, h1, h2', h3, h4, h5, h6, h7, h8⟩ := r k v hk
  exact ⟨g, t, u, kd, qs, h1, h2', h3, h4, F.get _ _ h5 (.inl rfl), h6, F.get _ _ h7 (.inr (h2 u h6.1)), h8⟩
theorem PlAt.ext (W : WF n C) (e : C <+: C') (x : PlAt N n b H C) : PlAt N n b H C' := by
  obtain ⟨kvs, h, nd, r⟩ := x
  refine ⟨kvs, h, nd, fun k v hk => ?_⟩
  obtain ⟨g, t, u, kd, qs, h1, h2, h3, h4, h5, h6, h7, h8⟩ := r k v hk
  exact ⟨g, t, u, kd, qs, h1, h2, Nat.lt_of_lt_of_le h3 e.length_le, h4, h5, h6, h7, h8.ext W e h2 h3⟩
theorem HasPl.fr {g : Nat} {qs : List Int} (x : HasPl N b H g qs) (F : Fr' S H H') (h : ¬ S (b + 4)) (h2 : ∀ u, b + 5 < u → ¬ S u) : HasPl N b H' g qs :=
  by obtain ⟨kvs, t, u, kd, a1, a2, a3, a4, a5⟩ := x; exact ⟨kvs, t, u, kd, F.get _ _ a1 (.inr h), a2, F.get _ _ a3 (.inl rfl), a4, F.get _ _ a5 (.inr (h2 u a4.1))⟩
theorem Kn.fr {i : Nat} (x : Kn b H i) (F : Fr' S H H') (h : ¬ S (b + 3)) : Kn b H' i := by obtain ⟨kvs, v, e, r⟩ := x; exact ⟨kvs, v, F.get _ _ e (.inr h), r⟩
theorem Keep.of (F : Fr' S H H') (h3 : ¬ S (b + 3)) (h4 : ¬ S (b + 4)) (h2 : ∀ u, b + 5 < u → ¬ S u) : Keep N b H H' := ⟨fun _ x => x.fr F h3, fun _ _ x => x.fr F h4 h2⟩
theorem Keep.ss (F : Fr' (SS b) H H') : Keep N b H H' := .of F (by (first | exact fun e => absurd (Nat.add_left_cancel e) (by decide) | (unfold SS; first | decide | lia))) (by (first | exact Nat.ne_of_lt (Nat.lt_succ_self _) | (unfold SS; first | decide | lia))) (fun u hu => by (first | exact Nat.ne_of_gt (by assumption) | (unfold SS; first | decide | (first | exact Nat.ne_of_gt (by assumption) | lia))))
theorem Keep.no (F : Fr' NoS H H') : Keep N b H H' := .of F (fun z => z) (fun z => z) (fun _ _ z => z)
/-- the circuit and the supports grew, nothing else -/
theorem Ctr.grow (K : Ctr N n b H C) (F : Fr' (SCS b) H H') (A : CircAt H' C') (W : WF n C') (FA : FewAll C') (Sx : SupAt b H' C') (e : C <+: C') : Ctr N n b H' C' := by
  have hlo := K.B.lo
  obtain ⟨xs, i1, i2⟩ := K.inputs
  exact ⟨A, W, K.four, FA, K.B.scs F, Sx, (K.known.fr F (by (first | exact fun z => z.elim (nSC (Nat.le_trans (by assumption) (Nat.le_add_right ..))) fun e => absurd (Nat.add_left_cancel e) (by decide) | (unfold SCS SC; first | decide | lia)))).ext K.wf e, (K.plans.fr F (by (first | exact fun z => z.elim (nSC (Nat.le_trans (by assumption) (Nat.le_add_right ..))) fun e => absurd (Nat.add_left_cancel e) (by decide) | (unfold SCS SC; first | decide | lia))) (fun u hu => by (first | exact nSCS (by assumption) (by assumption) | (unfold SCS SC; first | decide | lia)))).ext K.wf e, xs, F.get _ _ i1 (.inl rfl), i2⟩
theorem Keep.scs (h : 10 ≤ b) (F : Fr' (SCS b) H H') : Keep N b H H' := .of F (by (first | exact fun z => z.elim (nSC (Nat.le_trans (by assumption) (Nat.le_add_right ..))) fun e => absurd (Nat.add_left_cancel e) (by decide) | (unfold SCS SC; first | decide | lia))) (by (first | exact fun z => z.elim (nSC (Nat.le_trans (by assumption) (Nat.le_add_right ..))) fun e => absurd (Nat.add_left_cancel e) (by decide) | (unfold SCS SC; first | decide | lia))) (fun u hu => by (first | exact nSCS (by assumption) (by assumption) | (unfold SCS SC; first | decide | lia)))
theorem Ctr.ss (K : Ctr N n b H C) (F : Fr' (SS b) H H') (Sx : SupAt b H' C) : Ctr N n b H' C :=
  K.grow (F.mono fun j => SCS.of_SS) (K.at_.ss F K.B.lo) K.wf K.few Sx (List.prefix_refl _)
theorem Ctr.no (K : Ctr N n b H C) (F : Fr' NoS H H') : Ctr N n b H' C := K.ss F.no (K.sup.fr F (fun _ _ z => z))
theorem PlAt.hasPl (x : PlAt N n b H C) {g : Nat} {kvs : List (Int × V)} {v : V} (h : H[b + 4]? = some (.dictI kvs)) (hl : look (g : Int) kvs = some v) : ∃ (t u : Nat) (kd : Str) (qs : List Int), v = .ref t ∧ H[t]? = some (.tuple [.str kd, .ref u]) ∧ (b + 5 < u ∧ N u) ∧ H[u]? = some (.list (qs.map V.int)) ∧ PlanOk n C g kd qs := by
  obtain ⟨kv, e, nd, r⟩ := x
  rw [h] at e; cases e
  obtain ⟨g', t, u, kd, qs, h1, _, _, h4, h5, h6, h7, h8⟩ := r _ _ hl
  obtain rfl : g = g' := by (first | exact Int.ofNat_inj.mp (by assumption) | lia)
  exact ⟨t, u, kd, qs, h4, h5, h6, h7, h8⟩
noncomputable def Rdy (b : Nat) (H : Hp) (C : Ck) (i : Nat) : Prop := Kn b H i ∨ ∀ ps, C[i]? ≠ some (.and ps)
theorem Rdy.keep {i : Nat} (x : Rdy b H C i) (k : Keep N b H H') (e : C <+: C') (hi : i < C.length) : Rdy b H' C' i := x.imp (k.kn i) fun h ps z => h ps (by rw [← get_old e hi]; exact z)
variable {P : Params} {a : Addr} {l : List Int} {d : Nat} {Q : V → Hp → Prop}
theorem k_is_ready_ok {p : Int} (K : Ctr N n b H C) (hv : Vd C p) (q : ∀ c, (c = true ↔ Rdy b H C p.natAbs) → Q (.bool c) H) : callA (TT P a l) (d + 2) 90 [.ref (b + 1), .int p] H Q := by
  rw [rd_k_is_ready_eq]
  unfold rd_k_is_ready
  obtain ⟨kvs, e, nd, r⟩ := K.known
  refine abs_ok (g_kn K.B (cmp_in e (onB_ok (brQ_ok (fun h => ?_) fun h => ?_))))
  · refine q true ⟨fun _ => .inl ?_, fun _ => rfl⟩
    obtain ⟨v, hv⟩ := Option.isSome_iff_exists.mp h
    exact ⟨kvs, v, e, hv⟩
  · have hv2 := hv.2
    have hC0 : C[p.natAbs]? = some C[p.natAbs] := List.getElem?_eq_getElem hv2
    have hC : C[(((p.natAbs : Nat) : Int)).natAbs]? = some C[p.natAbs] := by rw [Int.natAbs_natCast]; exact List.getElem?_eq_getElem hv.2
    have hC' := hC0
    have nk : ¬ Kn b H p.natAbs := by
      rintro ⟨kv, v, e1, e2⟩
      rw [e] at e1; cases e1
      rw [e2] at h; cases h
    refine g_circuit K.B (onO_ok (m_kind K.at_) (abs_ok (c_kind_ok (d := d) K.at_ hC (neS_ok (q _ ?_)))))
    rw [bne_iff_ne]
    constructor
    · intro h
      refine .inr fun ps z => h ?_
      rw [hC'] at z
      exact eq_of_beq (and_str.mpr ⟨ps, Option.some.inj z⟩)
    · rintro (z | z) h
      · exact nk z
      · obtain ⟨ps, hps⟩ := and_str.mp (beq_iff_eq.mpr h)
        rw [hps] at hC'; exact z ps hC'
theorem sup_card {t : Nat} {p : Int} {kvs : List (Int × V)} (W : WF n C) (nd : (kvs.map (·.1)).Nodup) (h : ∀ x, x ∈ kvs.map (·.1) ↔ ∃ y : Nat, x = (y : Int) ∧ Sp C p.natAbs y) : kvs.length = sg n C p := by
  have := sn_keys nd h fun y hy => hy.range W
  rw [List.length_map] at this; exact this
theorem pow16 {k : Nat} (h : k ≤ 4) : 2 ^ k ≤ 16 := Nat.le_trans (Nat.pow_le_pow_right (by decide) h) (by decide)
theorem small_of {c : Nat} (h : c ≤ 65536) : smallI (c : Int) := by
  unfold smallI
  have : (2 : Int) ^ 40 = 1099511627776 := by decide
  lia
theorem k_own_ok {p : Int} (K : Ctr N n b H C) (hv : Vd C p) (hr : Rdy b H C p.natAbs) (hs : C.length + 1 < lim) (q : ∀ (c : Nat) H', Fr' (SS b) H H' → Ctr N n b H' C → OwnG n C p c → Q (.int (c : Int)) H') : callA (TT P a l) (d + 4) 97 [.ref (b + 1), .int p] H Q := by
  rw [rd_k_own_eq]
  unfold rd_k_own
  have W := K.wf
  have hv2 := hv.2
  have hC0 : C[p.natAbs]? = some C[p.natAbs] := List.getElem?_eq_getElem hv2
  have hC : C[(((p.natAbs : Nat) : Int)).natAbs]? = some C[p.natAbs] := by rw [Int.natAbs_natCast]; exact hC0
  have hC' := hC0
  have hlim : lim = 1048576 := rfl
  have hp0 : p ≠ 0 := by have := hv.1; lia
  refine g_circuit K.B (onO_ok (m_kind K.at_) (abs_ok (c_kind_ok (d := d + 2) K.at_ hC (eqS_ok (brQ_ok (fun h => ?_) fun h => ?_)))))
  · -- true
    have h1 : p.natAbs = 1 := by
      by_cases z : p.natAbs = 1
      · exact z
      · exfalso
        rcases gate_kind W (by have := hv.1; lia) hv.2 with ⟨_, e⟩ | ⟨_, ps, e⟩
        · rw [hC'] at e; rw [Option.some.inj e] at h; exact absurd h (by decide)
        · rw [hC'] at e; rw [Option.some.inj e] at h
          exact absurd (show (("and" : Str) == ("true" : Str)) = true from h) (by decide)
    refine gt_ok (brQ_ok (fun h => ?_) fun h => ?_)
    · have h := of_decide_eq_true h
      obtain rfl : p = 1 := by lia
      exact q 1 H .refl K (ownG_one W)
    · have h := of_decide_eq_false h
      obtain rfl : p = -1 := by lia
      exact q 0 H .refl K (ownG_mone W)
  · have hne1 : p.natAbs ≠ 1 := fun z => by
      have ht : C[p.natAbs]? = some .tru := by rw [z]; exact W.tru
      rw [hC'] at ht
      rw [Option.some.inj ht] at h
      exact absurd (show (("true" : Str) == ("true" : Str)) = false from h) (by decide)
    refine onO_ok rfl (g_circuit K.B (onO_ok (m_kind K.at_) (onO_ok rfl (abs_ok (c_kind_ok (d := d + 2) K.at_ hC (eqS_ok (brQ_ok (fun h => ?_) fun h => ?_)))))))
    · have hi := inp_str.mp h
      rw [hi] at hC'
      by_cases h0 : 0 < p
      · have : p = ((p.natAbs : Nat) : Int) := by (first | exact (Int.natAbs_of_nonneg (Int.le_of_lt (by assumption))).symm | lia)
        exact q 1 H .refl K (by rw [this]; exact ownG_inp W hC')
      · have : p = -((p.natAbs : Nat) : Int) := by (first | exact Int.eq_neg_comm.mp (Int.ofNat_natAbs_of_nonpos (Int.not_lt.mp (by assumption))) | lia)
        exact q 1 H .refl K (by rw [this]; exact ownG_minp W hC')
    · have hand : ∃ ps, C[p.natAbs]? = some (.and ps) := by
        rcases gate_kind W (by have := hv.1; lia) hv.2 with ⟨_, e⟩ | ⟨_, e⟩
        · rw [hC'] at e; rw [inp_str.mpr (Option.some.inj e)] at h; cases h
        · exact e
      obtain ⟨ps, hps⟩ := hand
      obtain ⟨kv, v, e1, e2⟩ := hr.resolve_right fun z => z ps hps
      obtain ⟨kv', e3, nd, r⟩ := K.known
      rw [e1] at e3; cases e3
      obtain ⟨i, c, h1, h2, h3, rfl, h5⟩ := r _ _ e2
      obtain rfl : i = p.natAbs := by (first | exact (Int.ofNat_inj.mp (by assumption)).symm | lia)
      refine onO_ok rfl (g_kn K.B (onO_ok rfl (abs_ok (sub_I e1 e2 (onO_ok rfl (gt_ok (brQ_ok (fun h => ?_) fun h => ?_)))))))
      · have h := of_decide_eq_true h
        have : p = ((p.natAbs : Nat) : Int) := by (first | exact (Int.natAbs_of_nonneg (Int.le_of_lt (of_decide_eq_true (by assumption)))).symm | lia)
        exact q c H .refl K (by rw [this]; exact h5)
      · have h := of_decide_eq_false h
        refine onO_ok rfl (onO_ok (m_support K.B) (onO_ok rfl (k_support_ok (g := p) (d := d) K.at_ W K.four K.B (fun _ _ => trivial) K.sup hv (K.few _ hv.2) hs fun t H2 F2 S2 t5 _ K2 => ?_)))
        obtain ⟨skv, s1, s2, s3⟩ := K2
        have hcard := sup_card (t := t) W s2 s3
        have hle := sn_le n (Sp C p.natAbs)
        have h4 := K.four
        have hsg : sg n C p ≤ 4 := by unfold sg; (first | exact Nat.le_trans (by assumption) (by assumption) | lia)
        refine len_ok (n := sg n C p) s1 (by simp [lenOf, hcard]) (by (first | exact Nat.lt_of_le_of_lt (by assumption) (by decide) | lia)) (shl_ok (small_of (c := 1) (by decide)) (by (first | exact Int.natCast_nonneg _ | lia)) (by lia) (sub_ok' ?_))
        have hp : p = -((p.natAbs : Nat) : Int) := by (first | exact Int.eq_neg_comm.mp (Int.ofNat_natAbs_of_nonpos (Int.not_lt.mp (by assumption))) | lia)
        have ho := ownG_neg (n := n) (C := C) (p := ((p.natAbs : Nat) : Int)) ⟨h2, h3⟩ h5
        have hle2 := own_le h5
        rw [Int.natAbs_natCast] at hle2
        have e5 : sg n C ((p.natAbs : Nat) : Int) = sg n C p := by unfold sg; rw [Int.natAbs_natCast]
        have hle3 : c ≤ 2 ^ sg n C p := hle2
        have e : ((1 : Int) * 2 ^ ((sg n C p : Nat) : Int).toNat - (c : Int)) = ((2 ^ sg n C p - c : Nat) : Int) := by
          rw [Int.toNat_natCast, Int.one_mul, Int.ofNat_sub hle3]; simp
        rw [e]
        refine q _ H2 F2 (K.ss F2 S2) ?_
        rw [← hp, e5] at ho; exact ho
theorem k_plan_memo {g : Nat} {qs : List Int} (K : Ctr N n b H C) (h : HasPl N b H g qs) (q : ∀ (t u : Nat) kd, H[t]? = some (.tuple [.str kd, .ref u]) → (b + 5 < u ∧ N u) → H[u]? = some (.list (qs.map V.int)) → PlanOk n C g kd qs → Q (.ref t) H) :
    callA (TT P a l) (d + 5) 83 [.ref (b + 1), .int (g : Int)] H Q := by
  rw [rd_k_plan_eq]
  unfold rd_k_plan
  obtain ⟨kvs, t, u, kd, a1, a2, a3, a4, a5⟩ := id h
  obtain ⟨t', u', kd', qs', b1, b2, b3, b4, b5⟩ := K.plans.hasPl a1 a2
  cases b1
  have e : qs = qs' := h.uniq ⟨kvs, t, u', kd', a1, a2, b2, b3, b4⟩
  subst e
  refine g_plans K.B (cmp_notin a1 (brQ_ok (fun h => ?_) fun _ => ?_))
  · rw [a2] at h; cases h
  · exact onO_ok rfl (g_plans K.B (onO_ok rfl (sub_I a1 a2 (q t u' kd' b2 b3 b4 b5))))
end
end Mine
end
section
open PySem PySem.W PyProof.Rows
set_option maxRecDepth 100000
set_option linter.unusedVariables false
set_option autoImplicit false
namespace Mine
section
variable {N : Nat → Prop} {n b : Nat} {H H' : Hp} {C C' : Ck} {P : Params} {a : Addr} {l : List Int} {d : Nat} {Q : V → Hp → Prop}
theorem plan_store {H4 : Hp} {g t u : Nat} {kd : Str} {qs : List Int} {kvs : List (Int × V)} (K : Ctr N n b H C) (hk : H[b + 4]? = some (.dictI kvs)) (hn : look (g : Int) kvs = .none) (h1 : 1 ≤ g) (hg : g < C.length)
    (ht : H[t]? = some (.tuple [.str kd, .ref u])) (hu : b + 5 < u ∧ N u) (hl : H[u]? = some (.list (qs.map V.int))) (hp : PlanOk n C g kd qs) (s : Set1 (b + 4) (.dictI (put (g : Int) (.ref t) kvs)) H H4) :
    Ctr N n b H4 C ∧ Keep N b H H4 ∧ HasPl N b H4 g qs ∧ H4[t]? = some (.tuple [.str kd, .ref u]) ∧ H4[u]? = some (.list (qs.map V.int)) ∧ look (g : Int) (put (g : Int) (.ref t) kvs) = some (.ref t) := by
  have hlo := K.B.lo
  have F : Fr' (fun j => j = b + 4) H H4 := Fr'.refl.set1 s hk rfl (.inl rfl)
  have ht4 := F.get _ _ ht (.inl rfl)
  have hl4 := F.get _ _ hl (.inr (by lia))
  have hlk : look (g : Int) (put (g : Int) (.ref t) kvs) = some (.ref t) := by rw [look_put, if_pos rfl]
  refine ⟨⟨K.at_.fr F (by lia) (by lia) (by lia) (by lia), K.wf, K.four, K.few, K.B.fr F (by lia), K.sup.fr F (fun j hj => by (first | exact Nat.ne_of_gt (by assumption) | lia)), K.known.fr F (by lia), ?_, ?_⟩, ⟨fun i x => x.fr F (by lia), fun g' qs' x => ?_⟩, ⟨_, t, u, kd, s.at_, hlk, ht4, hu, hl4⟩, ht4, hl4, hlk⟩
  · obtain ⟨kv, e, nd, r⟩ := K.plans
    rw [hk] at e; cases e
    refine ⟨_, s.at_, put_nodup nd, fun k v hkv => ?_⟩
    rw [look_put] at hkv
    by_cases z : k = (g : Int)
    · rw [if_pos z] at hkv; cases hkv
      exact ⟨g, t, u, kd, qs, z, h1, hg, rfl, ht4, hu, hl4, hp⟩
    · rw [if_neg z] at hkv
      obtain ⟨g', t', u', kd', qs', y1, y2, y3, y4, y5, y6, y7, y8⟩ := r k v hkv
      exact ⟨g', t', u', kd', qs', y1, y2, y3, y4, F.get _ _ y5 (.inl rfl), y6, F.get _ _ y7 (.inr (by lia)), y8⟩
  · obtain ⟨xs, i1, i2⟩ := K.inputs
    exact ⟨xs, F.get _ _ i1 (.inl rfl), i2⟩
  · obtain ⟨kv, t', u', kd', y1, y2, y3, y4, y5⟩ := x
    rw [hk] at y1; cases y1
    refine ⟨_, t', u', kd', s.at_, ?_, F.get _ _ y3 (.inl rfl), y4, F.get _ _ y5 (.inr (by lia))⟩
    rw [look_put, if_neg, y2]
    intro z
    rw [z, hn] at y2; cases y2
theorem plans_len (K : Ctr N n b H C) {kvs : List (Int × V)} (h : H[b + 4]? = some (.dictI kvs)) : kvs.length ≤ C.length := by
  obtain ⟨kv, e, nd, r⟩ := K.plans
  rw [h] at e; cases e
  exact keys_len nd fun k hk => by
    obtain ⟨v, hv⟩ := look_key.mp hk
    obtain ⟨g, _, _, _, _, z1, _, z3, _⟩ := r k v hv
    exact ⟨g, z1, z3⟩
inductive PlI (n b : Nat) (C : Ck) (H H1 : Hp) (lots : List (List Int)) (rest : List V) (acc : List V) (H' : Hp) : Prop
  | mk (doneL restL : List (List Int)) (rs : List Int) (C1 : Ck) (h0 : lots = doneL ++ restL) (h1 : acc = rs.map V.int) (h2 : All2 (fun v lot => ∃ r : Nat, v = .ref r ∧ H.length ≤ r ∧ H1[r]? = some (.list (lot.map V.int))) rest restL) (h3 : C <+: C1) (h4 : WF n C1) (h5 : FewAll C1) (h6 : CircAt H' C1) (h7 : SupAt b H' C1) (h8 : Fr' SC H1 H') (h9 : C1.length ≤ C.length + doneL.length) (h10 : All2 (fun r lot => LotG C C1 lot r) rs doneL) : PlI n b C H H1 lots rest acc H'
theorem k_plan_ok {g : Nat} {ps : List Int} (K : Ctr N n b H C) (hg : C[g]? = some (.and ps)) (hN : ∀ u, H.length ≤ u → N u) (hs : C.length + 70 < lim)
    (q : ∀ (t u : Nat) kd qs C' H', C <+: C' → C'.length ≤ C.length + 48 → Ctr N n b H' C' → Fr' (SB b) H H' → Keep N b H H' → H'[t]? = some (.tuple [.str kd, .ref u]) → H'[u]? = some (.list (qs.map V.int)) → PlanOk n C' g kd qs → HasPl N b H' g qs → Q (.ref t) H') :
    callA (TT P a l) (d + 5) 83 [.ref (b + 1), .int (g : Int)] H Q := by
  obtain ⟨kvs, p1, pnd, pr⟩ := id K.plans
  cases hlook : look (g : Int) kvs with
  | some v =>
    obtain ⟨t, u, kd, qs, rfl, b2, b3, b4, b5⟩ := K.plans.hasPl p1 hlook
    have hp : HasPl N b H g qs := ⟨kvs, t, u, kd, p1, hlook, b2, b3, b4⟩
    refine k_plan_memo K hp fun t' u' kd' y1 y2 y3 y4 => q t' u' kd' qs C H (List.prefix_refl _) (by (first | exact Nat.le_add_right _ _ | lia)) K .refl .refl y1 y3 y4 hp
  | none =>
  rw [rd_k_plan_eq]
  unfold rd_k_plan
  have W := K.wf
  have hw := W.at hg
  have hwa := hw.ge
  have hwb := hw.two
  have hwc := hw.three
  have hgl := lt_of_get' hg
  have hlo := K.B.lo
  have hb5 := K.sup.len
  have hlim : lim = 1048576 := rfl
  have hg1 : 1 ≤ g := by (first | exact Nat.lt_of_le_of_lt (Nat.le_add_left ..) (by assumption) | lia)
  have hgi : C[((g : Int)).natAbs]? = some (.and ps) := hg
  have hpv : ∀ p ∈ ps, Vd C p := fun p hp => by have := hw.parts p hp; exact ⟨by lia, by lia⟩
  refine g_plans K.B (cmp_notin p1 (brQ_ok (fun _ => ?_) fun h => by rw [hlook] at h; cases h))
  refine onO_ok (m_groups K.B) (g_circuit K.B (onO_ok (m_parts K.at_) (c_parts_ok (d := d + 3) K.at_ hgi fun tp htp => k_groups_ok (d := d) K.at_ W K.four K.B K.sup K.few (by lia) htp hpv hw.three fun lots ts tl H1 F1 S1 tl1 e1 hL hA => ?_)))
  have hL : Lots C ps lots := hL
  have K1 := K.ss F1 S1
  have hlen1 := F1.len
  have htl : ts.length = lots.length := hA.len
  have hlots : lots.length ≤ 3 := by
    have h1 := hL.2.1.length_eq
    have : lots.length ≤ lots.flatten.length := by
      have key : ∀ L : List (List Int), (∀ x ∈ L, x ≠ []) → L.length ≤ L.flatten.length := by
        intro L
        induction L with
        | nil => simp
        | cons x r ih =>
          intro h
          have := ih fun y hy => h y (List.mem_cons_of_mem _ hy)
          have h0 := List.length_pos_iff.mpr (h x (List.mem_cons_self ..))
          simp only [List.length_cons, List.flatten_cons, List.length_append]; lia
      exact key lots hL.1
    have := hw.three
    lia
  -- the end: the plan is in the table
  have fin : ∀ (m : Loc) (t : Nat) (kd : Str) (qs : List Int) (u : Nat) (C' : Ck) (H2 H3 : Hp) (kv : List (Int × V)), lk "self" m = some (.ref (b + 1)) → lk "gate" m = some (.int (g : Int)) → C <+: C' → C'.length ≤ C.length + 48 → Ctr N n b H2 C' → Fr' (SB b) H H2 → Keep N b H H2 → H2[b + 4]? = some (.dictI kvs) →
      H2[t]? = some (.tuple [.str kd, .ref u]) → (b + 5 < u ∧ N u) → H2[u]? = some (.list (qs.map V.int)) → PlanOk n C' g kd qs → Set1 (b + 4) (.dictI (put (g : Int) (.ref t) kvs)) H2 H3 →
      onO (lk "self" m) fun v59 => gAttr (TT P a l) H3 v59 "plans" fun v60 H61 => onO (lk "gate" m) fun v62 => gSub H61 v60 v62 fun v63 H64 => Q v63 H64 := fun m t kd qs u C' H2 H3 kv m1 m2 eC lC K2 F2 k2 h4 ht hu hl hp s => by
    obtain ⟨K3, k3, hpl, t3, u3, lk3⟩ := plan_store K2 h4 hlook hg1 (Nat.lt_of_lt_of_le hgl eC.length_le) ht hu hl hp s
    have F3 : Fr' (SB b) H H3 := F2.set1 s h4 rfl (.inl (.inr (.inr (.inl rfl))))
    exact onO_ok m1 (g_plans K3.B (onO_ok m2 (sub_I s.at_ lk3 (q t u kd qs C' H3 eC lC K3 F3 (k2.trans k3) t3 u3 hp hpl))))
  have p1' : H1[b + 4]? = some (.dictI kvs) := F1.get _ _ p1 (.inr (by (first | exact Nat.ne_of_lt (Nat.lt_succ_self _) | (unfold SS; first | decide | lia))))
  have FB : ∀ {H2 : Hp}, Fr' (SCS b) H1 H2 → Fr' (SB b) H H2 := fun F => (F1.mono fun j hj => .inr (.inr (.inr hj))).trans (F.mono fun j hj => hj.elim .inl fun z => .inr (.inr (.inr z)))
  refine len_ok (n := lots.length) e1 (by simp [lenOf, htl]) (by (first | exact Nat.lt_of_le_of_lt (by assumption) (by decide) | lia)) (gt_ok (brQ_ok (fun h => ?_) fun h => ?_))
  · have h2 : 2 ≤ lots.length := by have := of_decide_eq_true h; (first | exact Int.ofNat_lt.mp (by assumption) | lia)
    refine over_list e1 ⟨by rw [htl]; (first | exact Nat.lt_of_le_of_lt (by assumption) (by decide) | lia), ?_⟩
    refine cmpL_ok (PlI n b C H H1 lots) ?_ ?_ _ _ _
      ⟨[], lots, [], C, rfl, rfl, hA, List.prefix_refl _, W, K.few, K1.at_, S1, .refl, by simp, .nil⟩ fun rest acc H' x => by
        obtain ⟨_, _, _, _, _, _, _, _, _, _, _, _, F, _⟩ := x
        exact F.get _ _ e1 (.inr (by unfold SC; first | decide | lia))
    · rintro v rest acc H2 k ⟨doneL, restL, rs, C1, f1, rfl, al, eC, W1, FA1, A1, S2, F2, lC, aG⟩ kk
      obtain ⟨lot, restL, rfl, ⟨r, rfl, hr1, hr2⟩, al2⟩ : ∃ y ys, restL = y :: ys ∧ (∃ r : Nat, v = .ref r ∧ H.length ≤ r ∧ H1[r]? = some (.list (y.map V.int))) ∧ All2 (fun v lot => ∃ r : Nat, v = .ref r ∧ H.length ≤ r ∧ H1[r]? = some (.list (lot.map V.int))) rest ys := by
        cases al with
        | cons h1 h2 => exact ⟨_, _, rfl, h1, h2⟩
      have hlm : lot ∈ lots := by rw [f1]; simp
      have hlp : ∀ p ∈ lot, p ∈ ps := fun p hp => hL.2.1.mem_iff.mp (List.mem_flatten.mpr ⟨lot, hlm, hp⟩)
      have hvl : ∀ p ∈ lot, Vd C1 p := fun p hp => (hpv p (hlp p hp)).ext eC
      have hll : lot.length ≤ 3 := by
        have h1 := hL.2.1.length_eq
        rw [f1] at h1
        simp only [List.flatten_append, List.flatten_cons, List.length_append] at h1
        have := hw.three
        lia
      have hdl : doneL.length ≤ 3 := by rw [f1] at hlots; simp at hlots; (first | exact Nat.le_trans (Nat.le_add_right ..) (by assumption) | lia)
      have B2 := K1.B.sc F2
      refine onO_ok (by rw [k_plan_sc0_self]; rfl) (g_circuit B2 (onO_ok (m_all_of A1) (c_all_of_ok (d := d + 2) A1 W1 hvl (.inl (F2.get _ _ hr2 (.inr (by unfold SC; first | decide | lia)))) hll (by lia) fun r' C2 H3 ha A3 F3 => kk _ _ ⟨doneL ++ [lot], restL, rs ++ [r'], C2, by rw [f1]; simp, by (first | (rw [List.map_append]; rfl) | simp), al2, eC.trans ha.pre.1, ha.wf W1 hvl, lot_few W W1 eC FA1 hg hlp ha, A3, (S2.ext W1 ha.pre.1).sc F3 hlo, F2.trans F3, by have := ha.pre.2; simp; lia, ?_⟩)))
      exact (aG.imp fun _ _ z => z.ext W1 ha.pre.1).snoc (lotG_of W W1 eC hg hlp (hL.1 lot hlm) ha)
    · rintro acc H2 ⟨doneL, restL, rs, C1, f1, rfl, al, eC, W1, FA1, A1, S2, F2, lC, aG⟩
      obtain rfl : restL = [] := by cases al; rfl
      obtain rfl : lots = doneL := by simpa using f1
      refine newO_ok fun H3 F3 l3 e3 => newO_ok fun H4 F4 l4 e4 => ?_
      have F14 : Fr' (SCS b) H1 H4 := (F2.trans (F3.trans F4).no).mono fun j => SCS.of_SC
      have K4 : Ctr N n b H4 C1 := K1.grow F14 ((A1.no F3).no F4) W1 FA1 ((S2.fr F3 (fun _ _ z => z)).fr F4 (fun _ _ z => z)) eC
      have p4 : H4[b + 4]? = some (.dictI kvs) := F14.get _ _ p1' (.inr (by (first | exact fun z => z.elim (nSC (Nat.le_trans (by assumption) (Nat.le_add_right ..))) fun e => absurd (Nat.add_left_cancel e) (by decide) | (unfold SCS SC; first | decide | lia))))
      have hl2 := F2.len
      refine g_plans K4.B (sSubI_ok p4 (by have := plans_len K4 p4; lia) fun H5 s5 => fin _ H3.length "product" rs H2.length C1 H4 H5 kvs rfl rfl eC (by lia) K4 (FB F14) ((Keep.ss F1).trans (Keep.scs hlo F14)) p4 e4 ⟨by (first | exact Nat.le_trans (by assumption) (Nat.le_trans (by assumption) (by assumption)) | lia), hN _ (by (first | exact Nat.le_trans (by assumption) (by assumption) | lia))⟩ (F4.get _ _ e3 (.inr fun z => z)) (plan_product W W1 eC hg hL h2 hlots aG) s5)
  · have h1 : lots.length = 1 := by
      have := of_decide_eq_false h
      have h0 : lots ≠ [] := fun z => by
        have h1 := hL.2.1.length_eq
        rw [z] at h1; simp at h1; lia
      have := List.length_pos_iff.mpr h0
      lia
    obtain ⟨lot, rfl⟩ := len1 h1
    obtain ⟨v0, rfl, r, rfl, hr1, hr2⟩ := all2_one hA
    have hpm : lot.Perm ps := by simpa using hL.2.1
    have hsx : ∃ x, ∃ p ∈ lot, Sp C p.natAbs x := by
      have h2 := hw.two
      cases ps with | nil => exact absurd h2 (by decide) | cons p ps =>
        have hb := hw.parts p (by (first | exact List.mem_cons_self .. | simp))
        obtain ⟨x, hx⟩ := sp_some W p.natAbs hb.1 (by lia)
        exact ⟨x, p, hpm.mem_iff.mpr (by (first | exact List.mem_cons_self .. | simp)), hx⟩
    refine onO_ok (m_pick K1.B) (sub_list (k := 0) e1 (v := .ref r) rfl (by decide) (k_pick_ok (d := d) K1.at_ W K.four K1.B S1 K.few (by lia) hr2 (by (first | exact Nat.ne_of_gt (Nat.lt_of_lt_of_le (by assumption) (by assumption)) | lia)) (fun p hp => hpv p (hpm.mem_iff.mp hp)) hsx fun x H2 F2 S2 hx => ?_))
    obtain ⟨p, hp, hx⟩ := hx
    have hxg : Sp C g x := (Sp.and hg).mpr ⟨p, hpm.mem_iff.mp hp, hx⟩
    have hxr := hxg.range W
    have hgx : g ≠ x := by have := hw.ge; lia
    have K2 := K1.ss F2 S2
    refine onO_ok (m_settled K2.B) (k_settled_ok (d := d) K2.at_ W K.four K2.B S2 K.few hxg hgx (.inr rfl) hg1 hgl (by lia) fun r0 C1 H3 X => ?_)
    have K3 : Ctr N n b H3 C1 := K2.grow X.fr X.at_ X.wf X.few X.sup X.pre
    have hx1 : Sp C1 g x := (Sp.ext W X.pre hgl).mpr hxg
    have hl1 := X.len
    refine onO_ok (m_settled K3.B) (k_settled_ok (d := d) K3.at_ X.wf K.four K3.B X.sup X.few hx1 hgx (.inl rfl) hg1 (Nat.lt_of_lt_of_le hgl X.pre.length_le) (by lia) fun r1 C2 H4 Y => ?_)
    have K4 : Ctr N n b H4 C2 := K3.grow Y.fr Y.at_ Y.wf Y.few Y.sup Y.pre
    have hl2 := Y.len
    refine newO_ok fun H5 F5 l5 e5 => newO_ok fun H6 F6 l6 e6 => ?_
    have F16 : Fr' (SCS b) H1 H6 := (((F2.mono fun j => SCS.of_SS).trans X.fr).trans Y.fr).trans (F5.trans F6).no
    have K6 := (K4.no F5).no F6
    have p6 : H6[b + 4]? = some (.dictI kvs) := F16.get _ _ p1' (.inr (by (first | exact fun z => z.elim (nSC (Nat.le_trans (by assumption) (Nat.le_add_right ..))) fun e => absurd (Nat.add_left_cancel e) (by decide) | (unfold SCS SC; first | decide | lia))))
    have hl4 : H.length ≤ H4.length := Nat.le_trans hlen1 (((F2.mono fun j => SCS.of_SS).trans X.fr).trans Y.fr).len
    have hplan : PlanOk n C2 g "sum" [r0, r1] := by
      refine plan_sum W Y.wf (X.pre.trans Y.pre) hg1 hgl hxg (X.vd.ext Y.pre) Y.vd (fun ρ => ?_) (fun ρ => ?_) (fun y hy => ?_) fun y hy => ?_
      · rw [Vl_ext Y.pre X.vd, X.val]; rfl
      · rw [Y.val, vl_ext X.pre hgl]; rfl
      · exact X.sp y ((Sp.ext X.wf Y.pre X.vd.2).mp hy)
      · obtain ⟨z1, z2⟩ := Y.sp y hy
        exact ⟨(Sp.ext W X.pre hgl).mp z1, z2⟩
    refine g_plans K6.B (sSubI_ok p6 (by have := plans_len K6 p6; lia) fun H7 s7 => fin _ H5.length "sum" [r0, r1] H4.length C2 H6 H7 kvs rfl rfl (X.pre.trans Y.pre) (by lia) K6 (FB F16) ((Keep.ss F1).trans (Keep.scs hlo F16)) p6 e6 ⟨by (first | exact Nat.lt_of_lt_of_le (by assumption) (by assumption) | lia), hN _ hl4⟩ (F6.get _ _ e5 (.inr fun z => z)) hplan s7)
end
end Mine
end
section
open PySem PySem.W PyProof.Rows
set_option maxRecDepth 100000
set_option linter.unusedVariables false
set_option autoImplicit false
namespace Mine
theorem prodL_snoc : ∀ (cs : List Nat) (c : Nat), prodL (cs ++ [c]) = prodL cs * c
  | [], c => by simp [prodL]
  | x :: cs, c => by simp only [List.cons_append, prodL, prodL_snoc cs c, Nat.mul_assoc]
theorem sumOwn_snoc {n : Nat} {C : Ck} {g : Nat} : ∀ {qs : List Int} {cs : List Nat} {q : Int} {c : Nat}, qs.length = cs.length → sumOwn n C g (qs ++ [q]) (cs ++ [c]) = sumOwn n C g qs cs + c * 2 ^ (sn n (Sp C g) - 1 - sg n C q)
  | [], [], q, c, _ => by simp [sumOwn]
  | x :: qs, y :: cs, q, c, h => by
    simp only [List.cons_append, sumOwn]
    rw [sumOwn_snoc (by (first | exact Nat.succ.inj h | simpa using h)), Nat.add_assoc]
theorem sum_cast : ∀ vs : List Nat, (vs.map fun v : Nat => (v : Int)).sum = ((vs.sum : Nat) : Int)
  | [] => rfl
  | v :: vs => by simp only [List.map_cons, List.sum_cons, sum_cast vs]; (first | rfl | lia)
section
variable {N : Nat → Prop} {n b : Nat} {H H' : Hp} {C C' : Ck} {P : Params} {a : Addr} {l : List Int} {d : Nat} {Q : V → Hp → Prop}
theorem k_len_sup {N' : Nat → Prop} {p : Int} (K : Ctr N n b H C) (hv : Vd C p) (hs : C.length + 1 < lim) (q : ∀ H', Fr' (SS b) H H' → Ctr N n b H' C → Q (.int ((sg n C p : Nat) : Int)) H') :
    callA (TT P a l) (d + 3) 47 [.ref (b + 1), .int p] H fun v H' => bltV "len" [v] H' Q := by
  refine k_support_ok (g := p) (d := d) K.at_ K.wf K.four K.B (fun _ _ => trivial) K.sup hv (K.few _ hv.2) hs fun t H2 F2 S2 t5 _ K2 => ?_
  obtain ⟨skv, s1, s2, s3⟩ := K2
  have hcard := sup_card (t := t) K.wf s2 s3
  have hle := sn_le n (Sp C p.natAbs)
  have h4 := K.four
  have hlim : lim = 1048576 := rfl
  have hsg : sg n C p ≤ 4 := by unfold sg; (first | exact Nat.le_trans (by assumption) (by assumption) | lia)
  exact len_ok (n := sg n C p) s1 (by simp [lenOf, hcard]) (by (first | exact Nat.lt_of_le_of_lt (by assumption) (by decide) | lia)) (q H2 F2 (K.ss F2 S2))
theorem own16 {p : Int} {c : Nat} (h4 : n ≤ 4) (h : OwnG n C p c) : c ≤ 16 := Nat.le_trans (own_le h) (pow16 (Nat.le_trans (sn_le _ _) h4))
inductive CoA (N : Nat → Prop) (n b : Nat) (C : Ck) (H : Hp) (qs : List Int) (rest : List V) (m : Loc) (H' : Hp) : Prop
  | mk (done rs : List Int) (cs : List Nat) (h0 : rest = rs.map V.int) (h1 : qs = done ++ rs) (h2 : Fr' (SS b) H H') (h3 : Ctr N n b H' C) (h4 : lk "self" m = some (.ref (b + 1))) (h5 : lk "found" m = some (.int ((prodL cs : Nat) : Int))) (h6 : All2 (OwnG n C) done cs) (h7 : prodL cs ≤ 16 ^ done.length) : CoA N n b C H qs rest m H'
inductive CoB (N : Nat → Prop) (n b : Nat) (C : Ck) (g : Nat) (H : Hp) (qs : List Int) (rest : List V) (acc : List V) (H' : Hp) : Prop
  | mk (done rs : List Int) (cs vs : List Nat) (h0 : rest = rs.map V.int) (h1 : qs = done ++ rs) (h2 : acc = nats vs) (h3 : Fr' (SS b) H H') (h4 : Ctr N n b H' C) (h5 : All2 (OwnG n C) done cs) (h6 : vs.length = done.length) (h7 : vs.sum = sumOwn n C g done cs) : CoB N n b C g H qs rest acc H'
theorem k_combined_ok {g : Nat} {qs : List Int} (K : Ctr N n b H C) (h : HasPl N b H g qs) (h1 : 1 ≤ g) (hg : g < C.length) (hr : ∀ q ∈ qs, Rdy b H C q.natAbs) (hs : C.length + 1 < lim)
    (q : ∀ (c : Nat) H', Fr' (SS b) H H' → Ctr N n b H' C → OwnG n C (g : Int) c → Q (.int (c : Int)) H') : callA (TT P a l) (d + 6) 102 [.ref (b + 1), .int (g : Int)] H Q := by
  rw [rd_k_combined_eq]
  unfold rd_k_combined
  have hlim : lim = 1048576 := rfl
  have h4 := K.four
  have hvg : Vd C (g : Int) := ⟨h1, hg⟩
  refine onO_ok (m_plan K.B) (k_plan_memo (d := d) K h fun t u kd e1 e2 e3 hp => bindN_ok e1 rfl (onO_ok rfl (eqS_ok ?_)))
  have hu : ∀ {H' : Hp}, Fr' (SS b) H H' → H'[u]? = some (.list (qs.map V.int)) := fun F => F.get _ _ e3 (.inr (by unfold SS; first | decide | lia))
  have rdy : ∀ {H' : Hp}, Fr' (SS b) H H' → ∀ q ∈ qs, Rdy b H' C q.natAbs := fun F q hq => (hr q hq).keep (N := N) (Keep.ss F) (List.prefix_refl _) (hp.parts q hq).1.2
  refine brQ_ok (fun hk => ?_) fun hk => ?_
  · have hk : kd = "product" := eq_of_beq hk
    obtain ⟨_, hown⟩ := hp.own.resolve_right fun z => by rw [hk] at z; exact absurd z.1 (by decide)
    refine onO_ok rfl (over_list e3 ?_)
    refine forL_ok (CoA N n b C H qs) ?_ ?_ _ _ _
      ⟨[], qs, [], rfl, rfl, .refl, K, rfl, rfl, .nil, by (first | exact Nat.succ_pos _ | simp [prodL])⟩ fun rest m' H' x => by obtain ⟨_, _, _, _, _, F, _⟩ := x; exact hu F
    · rintro v rest m H2 k ⟨done, rs, cs, f1, f2, F2, K2, m1, m2, al, bd⟩ kk
      obtain ⟨p, rs, rfl, rfl, rfl⟩ := map_cons_inv f1
      have hpm : p ∈ qs := by rw [f2]; simp
      have hvp := (hp.parts p hpm).1
      have hdl : done.length ≤ 2 := by have := hp.len; rw [f2] at this; simp at this; lia
      have hb2 : prodL cs ≤ 256 := Nat.le_trans bd (Nat.le_trans (Nat.pow_le_pow_right (by decide) hdl) (by decide))
      refine onO_ok m2 (onO_ok m1 (onO_ok (m_own K2.B) (k_own_ok (d := d + 1) K2 hvp (rdy F2 p hpm) hs fun c H3 F3 K3 hc => ?_)))
      have hc16 := own16 h4 hc
      refine mul_ok (small_of (by (first | exact Nat.le_trans (by assumption) (by decide) | lia))) (small_of (by (first | exact Nat.le_trans (by assumption) (by decide) | lia))) (kk _ _ ⟨done ++ [p], rs, cs ++ [c], rfl, by rw [f2]; simp, F2.trans F3, K3, m1, ?_, al.snoc hc, ?_⟩)
      · rw [prodL_snoc]; show some (V.int _) = _; simp
      · rw [prodL_snoc, List.length_append, List.length_singleton, Nat.pow_succ]; exact Nat.mul_le_mul bd hc16
    · rintro m H2 ⟨done, rs, cs, f1, f2, F2, K2, m1, m2, al, bd⟩
      obtain rfl := map_nil_inv f1
      obtain rfl : qs = done := by simpa using f2
      exact onO_ok m2 (q _ H2 F2 K2 (hown cs al))
  · have hk : kd ≠ "product" := fun z => by rw [z] at hk; exact absurd hk (by decide)
    obtain ⟨_, hown⟩ := hp.own.resolve_left fun z => hk z.1
    refine onO_ok rfl (onO_ok (m_support K.B) (onO_ok rfl (k_len_sup (N' := N) (d := d + 2) K hvg hs fun H2 F2 K2 => sub_ok' (onO_ok rfl (over_list (hu F2) ⟨by have := hp.len; simp; (first | exact Nat.lt_of_le_of_lt (by assumption) (by decide) | lia), ?_⟩)))))
    have hsg : sg n C (g : Int) = sn n (Sp C g) := rfl
    refine cmpL_ok (CoB N n b C g H qs) ?_ ?_ _ _ _
      ⟨[], qs, [], [], rfl, rfl, rfl, F2, K2, .nil, rfl, rfl⟩ fun rest acc H' x => by obtain ⟨_, _, _, _, _, _, _, F, _⟩ := x; exact hu F
    · rintro v rest acc H3 k ⟨done, rs, cs, vs, f1, f2, rfl, F3, K3, al, vl, sm⟩ kk
      obtain ⟨p, rs, rfl, rfl, rfl⟩ := map_cons_inv f1
      have hpm : p ∈ qs := by rw [f2]; simp
      obtain ⟨hvp, hsp⟩ := hp.parts p hpm
      have hsn := sn_le n (Sp C g)
      refine onO_ok (by rw [k_combined_sc0_self]; rfl) (onO_ok (m_own K3.B) (k_own_ok (d := d + 1) K3 hvp (rdy F3 p hpm) hs fun c H4 F4 K4 hc => onO_ok (by rw [k_combined_sc0_many]; rfl) (onO_ok (by rw [k_combined_sc0_self]; rfl) (onO_ok (m_support K4.B) (k_len_sup (N' := N) (d := d + 2) K4 hvp hs fun H5 F5 K5 => sub_ok' ?_)))))
      have hc16 := own16 h4 hc
      refine shl_ok (small_of (by (first | exact Nat.le_trans (by assumption) (by decide) | lia))) (by rw [hsg]; lia) (by rw [hsg]; lia) (kk _ _ ⟨done ++ [p], rs, cs ++ [c], vs ++ [c * 2 ^ (sn n (Sp C g) - 1 - sg n C p)], rfl, by rw [f2]; simp, ?_, (F3.trans F4).trans F5, K5, al.snoc hc, by simp [vl], ?_⟩)
      · have e : ((sg n C (g : Int) : Nat) : Int) - 1 - ((sg n C p : Nat) : Int) = ((sn n (Sp C g) - 1 - sg n C p : Nat) : Int) := by rw [hsg, Int.natCast_sub (Nat.le_sub_of_add_le hsp), Int.natCast_sub (Nat.le_trans (Nat.le_add_left 1 _) hsp)]; rfl
        show nats vs ++ [V.int _] = _
        rw [e, Int.toNat_natCast]
        simp [nats]
      · rw [List.sum_append, sm, sumOwn_snoc al.len]; simp
    · rintro acc H3 ⟨done, rs, cs, vs, f1, f2, rfl, F3, K3, al, vl, sm⟩
      obtain rfl := map_nil_inv f1
      obtain rfl : qs = done := by simpa using f2
      refine newO_ok fun H4 F4 l4 e4 => sum_ok (l := vs.map fun v : Nat => (v : Int)) (by rw [e4]; simp [nats]) (ints_map _) ?_
      rw [sum_cast, sm]
      exact q _ H4 (F3.trans F4.no) (K3.no F4) (hown cs al)
end
end Mine
end
section
open PySem PySem.W PyProof.Rows
set_option maxRecDepth 100000
set_option linter.unusedVariables false
set_option autoImplicit false
namespace Mine
noncomputable def Wt : Nat → Nat
  | 0 => 1
  | k + 1 => 3 + 3 * Wt k
noncomputable def Ft : Nat → Nat
  | 0 => 0
  | k + 1 => 96 + 3 * Ft k
noncomputable def cntT (m6 : Loc) (H7 : Hp) (Q8 : Bool → Hp → Prop) : Prop :=
onO (lk "stack" m6) fun v14 =>
bltV "len" [v14] H7 fun v15 H16 =>
cmpV .Gt v15 (.int 0) H16 fun c17 =>
Q8 c17 H16
noncomputable def cntB (T : Tabs) (cl : CallOp) (m9 : Loc) (H10 : Hp) (k11 : Loc → Hp → Prop) : Prop :=
onO (lk "stack" m9) fun v18 =>
gSub H10 v18 (.int (-1)) fun v19 H20 =>
onO (lk "self" m9) fun v21 =>
onO (methOf T H20 v21 "is_ready") fun mt22 =>
methV cl true mt22 v21 [v19] H20 fun v23 H24 =>
onB v23 fun c25 =>
brQ c25 (fun kn26 : Loc → Hp → Prop =>
onO (lk "stack" m9) fun v29 =>
onO (methOf T H24 v29 "pop") fun mt30 =>
methV cl true mt30 v29 [] H24 fun v31 H32 =>
drp v31 (k11 (("here", v19) :: m9) H32)) (fun kn26 : Loc → Hp → Prop =>
kn26 (("here", v19) :: m9) H24) fun m27 H28 =>
onO (lk "self" m27) fun v33 =>
onO (methOf T H28 v33 "plan") fun mt34 =>
onO (lk "here" m27) fun v35 =>
methV cl true mt34 v33 [v35] H28 fun v36 H37 =>
gSub H37 v36 (.int 1) fun v38 H39 =>
overV false H39 v38 fun xs40 ok41 => xs40.length < lim ∧
cmpL (fun v42 H43 Q44 =>
onO (lk "self" (freeOf k_count_sc0 m27)) fun v49 =>
onO (methOf T H43 v49 "is_ready") fun mt50 =>
methV cl true mt50 v49 [v42] H43 fun v51 H52 =>
onB v51 fun c53 =>
brB (!c53) (bltV "abs" [v42] H52 fun v54 H55 =>
Q44 (some v54) H55) (Q44 .none H52)) ok41 xs40 [] H39 fun ys45 H46 =>
newO H46 (.list ys45) fun v47 H48 =>
bltV "len" [v47] H48 fun v56 H57 =>
cmpV .Gt v56 (.int 0) H57 fun c58 =>
brQ c58 (fun kn59 : Loc → Hp → Prop =>
onO (lk "stack" m27) fun v62 =>
onO (methOf T H57 v62 "extend") fun mt63 =>
methV cl true mt63 v62 [v47] H57 fun v64 H65 =>
drp v64 (kn59 (("lacking", v47) :: m27) H65)) (fun kn59 : Loc → Hp → Prop =>
onO (lk "self" m27) fun v66 =>
onO (methOf T H57 v66 "combined") fun mt67 =>
onO (lk "here" m27) fun v68 =>
methV cl true mt67 v66 [v68] H57 fun v69 H70 =>
onO (lk "self" m27) fun v71 =>
gAttr T H70 v71 "known" fun v72 H73 =>
onO (lk "here" m27) fun v74 =>
sSub H73 v72 v74 v69 fun H75 =>
kn59 (("lacking", v47) :: m27) H75) fun m60 H61 =>
k11 m60 H61
section
variable {N : Nat → Prop} {n b : Nat} {H H' : Hp} {C C' : Ck} {P : Params} {a : Addr} {l : List Int} {d : Nat} {Q : V → Hp → Prop}
theorem known_store {g c : Nat} {kvs : List (Int × V)} (K : Ctr N n b H C) (hk : H[b + 3]? = some (.dictI kvs)) (h1 : 1 ≤ g) (hg : g < C.length) (ho : OwnG n C (g : Int) c) (s : Set1 (b + 3) (.dictI (put (g : Int) (.int (c : Int)) kvs)) H H') :
    Ctr N n b H' C ∧ Keep N b H H' ∧ Kn b H' g := by
  have hlo := K.B.lo
  have F : Fr' (fun j => j = b + 3) H H' := Fr'.refl.set1 s hk rfl (.inl rfl)
  refine ⟨⟨K.at_.fr F (by lia) (by lia) (by lia) (by lia), K.wf, K.four, K.few, K.B.fr F (by lia), K.sup.fr F (fun j hj => by lia), ?_, K.plans.fr F (by lia) (fun u hu => by lia), ?_⟩, ⟨fun i x => ?_, fun g' qs' x => x.fr F (by lia) (fun u hu => by lia)⟩, _, _, s.at_, by rw [look_put, if_pos rfl]⟩
  · obtain ⟨kv, e, nd, r⟩ := K.known
    rw [hk] at e; cases e
    refine ⟨_, s.at_, put_nodup nd, fun k v hkv => ?_⟩
    rw [look_put] at hkv
    by_cases z : k = (g : Int)
    · rw [if_pos z] at hkv; cases hkv
      exact ⟨g, c, z, h1, hg, rfl, ho⟩
    · rw [if_neg z] at hkv; exact r k v hkv
  · obtain ⟨xs, i1, i2⟩ := K.inputs
    exact ⟨xs, F.get _ _ i1 (.inl rfl), i2⟩
  · obtain ⟨kv, v, y1, y2⟩ := x
    rw [hk] at y1; cases y1
    by_cases z : (i : Int) = (g : Int)
    · exact ⟨_, _, s.at_, by rw [look_put, if_pos z]⟩
    · exact ⟨_, v, s.at_, by rw [look_put, if_neg z]; exact y2⟩
theorem Ctr.setL {s : Nat} {xs ys : List V} (K : Ctr N n b H C) (hN : ∀ u, N u → u ≠ s) (hb : b + 5 < s) (hs : H[s]? = some (.list xs)) (z : Set1 s (.list ys) H H') : Ctr N n b H' C ∧ Keep N b H H' := by
  have hlo := K.B.lo
  have F : Fr' (fun j => j = s) H H' := Fr'.refl.set1 z hs rfl (.inl rfl)
  refine ⟨⟨K.at_.fr F (by lia) (by lia) (by lia) (by lia), K.wf, K.four, K.few, K.B.fr F (by lia), ?_, K.known.fr F (by lia), ?_, ?_⟩, ⟨fun i x => x.fr F (by lia), fun g qs x => ?_⟩⟩
  · obtain ⟨kvs, e, nd, r⟩ := K.sup
    refine ⟨kvs, F.get _ _ e (.inr (by (first | exact Nat.ne_of_lt (by assumption) | lia))), nd, fun k v hk => ?_⟩
    obtain ⟨i, t, h1, h2, h3, h4, kv, h5, h6⟩ := r k v hk
    exact ⟨i, t, h1, h2, h3, h4, kv, F.get _ _ h5 (.inr (by rintro rfl; rw [hs] at h5; cases h5)), h6⟩
  · obtain ⟨kvs, e, nd, r⟩ := K.plans
    refine ⟨kvs, F.get _ _ e (.inr (by lia)), nd, fun k v hk => ?_⟩
    obtain ⟨g, t, u, kd, qs, h1, h2', h3, h4, h5, h6, h7, h8⟩ := r k v hk
    exact ⟨g, t, u, kd, qs, h1, h2', h3, h4, F.get _ _ h5 (.inl rfl), h6, F.get _ _ h7 (.inr (hN u h6.2)), h8⟩
  · obtain ⟨xs, i1, i2⟩ := K.inputs
    exact ⟨xs, F.get _ _ i1 (.inl rfl), i2⟩
  · obtain ⟨kvs, t, u, kd, a1, a2, a3, a4, a5⟩ := x
    exact ⟨kvs, t, u, kd, F.get _ _ a1 (.inr (by lia)), a2, F.get _ _ a3 (.inl rfl), a4, F.get _ _ a5 (.inr (hN u a4.2))⟩
theorem Ctr.mono {N' : Nat → Prop} (K : Ctr N n b H C) (h : ∀ u, u < H.length → N u → N' u) : Ctr N' n b H C := by
  obtain ⟨kvs, e, nd, r⟩ := K.plans
  refine { K with plans := ⟨kvs, e, nd, fun k v hk => ?_⟩ }
  obtain ⟨g, t, u, kd, qs, h1, h2', h3, h4, h5, h6, h7, h8⟩ := r k v hk
  exact ⟨g, t, u, kd, qs, h1, h2', h3, h4, h5, ⟨h6.1, h u (lt_of_get h7) h6.2⟩, h7, h8⟩
structure StkI (n b : Nat) (H0 : Hp) (s : Nat) (gate : Int) (st : List Nat) (C : Ck) (m : Loc) (H : Hp) : Prop where
  K : Ctr (fun u => u ≠ s) n b H C
  fr : Fr' (SB b) H0 H
  low : H0.length ≤ s
  hb : b + 5 < H0.length
  stack : lk "stack" m = some (.ref s)
  self : lk "self" m = some (.ref (b + 1))
  gate : lk "gate" m = some (.int gate)
  list : H[s]? = some (.list (nats st))
variable {H0 : Hp} {s : Nat} {gate : Int} {m : Loc} {st : List Nat} {g : Nat}
abbrev Ns (s : Nat) : Nat → Prop := fun u => u ≠ s
theorem FB_SS (F : Fr' (SS b) H H') : Fr' (SB b) H H' := F.mono fun j hj => .inr (.inr (.inr hj))
inductive LaI (b : Nat) (C1 : Ck) (H1 : Hp) (qs : List Int) (rest : List V) (acc : List V) (H' : Hp) : Prop
  | mk (done rs : List Int) (Lk : List Nat) (h0 : rest = rs.map V.int) (h1 : qs = done ++ rs) (h2 : acc = nats Lk) (h3 : H' = H1) (h4 : Lk.length ≤ done.length) (h5 : (∀ q ∈ done, Rdy b H1 C1 q.natAbs ∨ q.natAbs ∈ Lk)) (h6 : ∀ j ∈ Lk, ∃ q ∈ done, j = q.natAbs ∧ ¬ Rdy b H1 C1 j) : LaI b C1 H1 qs rest acc H'
theorem cnt_turn {K : Loc → Hp → Prop} (X : StkI n b H0 s gate (st ++ [g]) C m H) (h1 : 1 ≤ g) (hg : g < C.length) (hlen : st.length ≤ 1000) (hs : C.length + 120 < lim)
    (h_pop : Rdy b H C g → ∀ m' H', StkI n b H0 s gate st C m' H' → Keep (Ns s) b H H' → K m' H')
    (h_push : ¬ Rdy b H C g → ∀ C' qs Lk m' H', C <+: C' → C'.length ≤ C.length + 48 → StkI n b H0 s gate (st ++ [g] ++ Lk) C' m' H' → Keep (Ns s) b H H' → HasPl (Ns s) b H' g qs → (∀ q ∈ qs, Rdy b H' C' q.natAbs ∨ q.natAbs ∈ Lk) → (∀ j ∈ Lk, ∃ q ∈ qs, j = q.natAbs ∧ ¬ Rdy b H' C' j) → Lk ≠ [] → Lk.length ≤ 3 → (∃ kd, PlanOk n C' g kd qs) → K m' H')
    (h_done : ¬ Rdy b H C g → ∀ C' m' H', C <+: C' → C'.length ≤ C.length + 48 → StkI n b H0 s gate (st ++ [g]) C' m' H' → Keep (Ns s) b H H' → Kn b H' g → K m' H') :
    cntB (TT P a l) (callA (TT P a l) (d + 6)) m H K := by
  have hlim : lim = 1048576 := rfl
  have hX := X.K
  have hlo := hX.B.lo
  have hlow := X.low
  have hbb := X.hb
  have hl : H[s]? = some (.list (nats st ++ [V.int (g : Int)])) := by rw [X.list]; simp
  have hvg : Vd C (g : Int) := ⟨h1, hg⟩
  unfold cntB
  refine onO_ok X.stack (sub_last hl (onO_ok X.self (onO_ok (m_is_ready hX.B) (k_is_ready_ok (d := d + 4) hX hvg fun c hc => onB_ok (brQ_ok (fun hc1 => ?_) fun hc1 => ?_)))))
  · refine onO_ok X.stack (onO_ok (mt_pop hl) (pop_ok hl (by simp; lia) fun H1 s1 => drp_none ?_))
    obtain ⟨K1, k1⟩ := hX.setL (fun _ z => z) (by (first | exact Nat.lt_of_lt_of_le (by assumption) (by assumption) | lia)) hl s1
    exact h_pop (hc.mp hc1) _ _ ⟨K1, X.fr.set1 s1 hl rfl (.inr X.low), X.low, X.hb, X.stack, X.self, X.gate, s1.at_⟩ k1
  · have hnr : ¬ Rdy b H C g := fun z => by rw [hc.mpr z] at hc1; cases hc1
    obtain ⟨ps, hps⟩ : ∃ ps, C[g]? = some (.and ps) := Classical.byContradiction fun z => hnr (.inr fun ps e => z ⟨ps, e⟩)
    refine onO_ok X.self (onO_ok (m_plan hX.B) (onO_ok rfl (k_plan_ok (d := d + 1) hX hps (fun u hu => by have := lt_of_get hl; show u ≠ s; (first | exact Nat.ne_of_gt (Nat.lt_of_lt_of_le (by assumption) (by assumption)) | lia)) (by lia) fun t u kd qs C1 H1 eC lC K1 F1 k1 e1 e2 hp hpl => ?_)))
    refine sub_tup (k := 1) e1 (v := .ref u) rfl (by decide) (over_list e2 ⟨by have := hp.len; simp; (first | exact Nat.lt_of_le_of_lt (by assumption) (by decide) | lia), ?_⟩)
    have fr1 : Fr' (SB b) H0 H1 := X.fr.trans F1
    have l1 : H1[s]? = some (.list (nats st ++ [V.int (g : Int)])) := F1.get _ _ hl (.inr (by unfold SB SC; first | decide | lia))
    have hg1 : g < C1.length := Nat.lt_of_lt_of_le hg eC.length_le
    refine cmpL_ok (LaI b C1 H1 qs) ?_ ?_ _ _ _
      ⟨[], qs, [], rfl, rfl, rfl, rfl, by simp, by simp, by simp⟩ fun rest acc H' x => by obtain ⟨_, _, _, _, _, _, rfl, _⟩ := x; exact e2
    · rintro v rest acc H2 k ⟨done, rs, Lk, f1, f2, rfl, rfl, f3, f4, f5⟩ kk
      obtain ⟨p, rs, rfl, rfl, rfl⟩ := map_cons_inv f1
      have hpm : p ∈ qs := by rw [f2]; simp
      refine onO_ok (by rw [k_count_sc0_self]; exact X.self) (onO_ok (m_is_ready K1.B) (k_is_ready_ok (d := d + 4) K1 (hp.parts p hpm).1 fun c hc => onB_ok ?_))
      cases c with
      | true =>
        refine kk _ _ ⟨done ++ [p], rs, Lk, rfl, by rw [f2]; simp, rfl, rfl, by simp; (first | exact Nat.le_succ_of_le (by assumption) | lia), fun q hq => ?_, fun j hj => ?_⟩
        · rcases List.mem_append.mp hq with h | h
          · exact f4 q h
          · rw [List.mem_singleton.mp h]; exact .inl (hc.mp rfl)
        · obtain ⟨q, z1, z2⟩ := f5 j hj
          exact ⟨q, List.mem_append_left _ z1, z2⟩
      | false =>
        show bltV "abs" [V.int p] H2 fun v54 H55 => H55[u]? = some (O.list (List.map V.int qs)) ∧ k (some v54) H55
        refine abs_ok ?_
        refine kk (some (.int ((p.natAbs : Nat) : Int))) _ ⟨done ++ [p], rs, Lk ++ [p.natAbs], rfl, by rw [f2]; simp, by simp [nats], rfl, by simp; (first | assumption | lia), fun q hq => ?_, fun j hj => ?_⟩
        · rcases List.mem_append.mp hq with h | h
          · exact (f4 q h).imp id fun z => List.mem_append_left _ z
          · rw [List.mem_singleton.mp h]; exact .inr (by (first | exact List.mem_append_right _ (List.mem_cons_self ..) | simp))
        · rcases List.mem_append.mp hj with h | h
          · obtain ⟨q, z1, z2⟩ := f5 j h
            exact ⟨q, List.mem_append_left _ z1, z2⟩
          · rw [List.mem_singleton.mp h]
            exact ⟨p, by (first | exact List.mem_append_right _ (List.mem_cons_self ..) | simp), rfl, fun z => by have := hc.mpr z; cases this⟩
    · rintro acc H2 ⟨done, rs, Lk, f1, f2, rfl, rfl, f3, f4, f5⟩
      obtain rfl := map_nil_inv f1
      obtain rfl : qs = done := by simpa using f2
      have hq3 := hp.len
      refine newO_ok fun H3 F3 l3 e3 => len_ok (n := Lk.length) e3 (by (first | exact congrArg some (List.length_map ..) | simp [lenOf])) (by lia) (gt_ok ?_)
      have K3 := K1.no F3
      have k3 : Keep (Ns s) b H H3 := k1.trans (Keep.no F3)
      have fr3 : Fr' (SB b) H0 H3 := fr1.trans F3.no
      have l3' : H3[s]? = some (.list (nats st ++ [V.int (g : Int)])) := F3.get _ _ l1 (.inr fun z => z)
      have rd3 : ∀ i, i < C1.length → (Rdy b H2 C1 i ↔ Rdy b H3 C1 i) := fun i hi => ⟨fun z => z.keep (N := Ns s) (Keep.no F3) (List.prefix_refl _) hi, fun z => z.imp (fun ⟨kv, v, y1, y2⟩ => by
        obtain ⟨kv', z1, _⟩ := K1.known
        have := F3.get _ _ z1 (.inr fun z => z)
        rw [y1] at this; cases this
        exact ⟨_, v, z1, y2⟩) id⟩
      refine brQ_ok (fun t1 => ?_) fun t1 => ?_
      · refine onO_ok X.stack (onO_ok (mt_ext l3') (ext_ok l3' e3 (by simp; lia) fun H4 s4 => drp_none ?_))
        obtain ⟨K4, k4⟩ := K3.setL (fun _ z => z) (by (first | exact Nat.lt_of_lt_of_le (by assumption) (by assumption) | lia)) l3' s4
        have rd4 : ∀ i, i < C1.length → (Rdy b H3 C1 i ↔ Rdy b H4 C1 i) := fun i hi => ⟨fun z => z.keep k4 (List.prefix_refl _) hi, fun z => z.imp (fun ⟨kv, v, y1, y2⟩ => by
          rw [s4.ne _ (by lia)] at y1; exact ⟨kv, v, y1, y2⟩) id⟩
        have hqv : ∀ q ∈ qs, q.natAbs < C1.length := fun q hq => (hp.parts q hq).1.2
        refine h_push hnr C1 qs Lk _ _ eC lC ⟨K4, fr3.set1 s4 l3' rfl (.inr X.low), X.low, X.hb, X.stack, X.self, X.gate, by rw [s4.at_]; simp [nats]⟩ (k3.trans k4) (k4.pl _ _ ((Keep.no F3).pl _ _ hpl)) (fun q hq => (f4 q hq).imp (fun z => (rd4 _ (hqv q hq)).mp ((rd3 _ (hqv q hq)).mp z)) id) (fun j hj => ?_) ?_ (by (first | exact Nat.le_trans (by assumption) (by assumption) | lia)) ⟨kd, hp⟩
        · obtain ⟨q, z1, rfl, z3⟩ := f5 j hj
          exact ⟨q, z1, rfl, fun z => z3 ((rd3 _ (hqv q z1)).mpr ((rd4 _ (hqv q z1)).mpr z))⟩
        · intro z; rw [z] at t1; exact absurd t1 (by decide)
      · have hnil : Lk = [] := List.eq_nil_of_length_eq_zero (by have := of_decide_eq_false t1; lia)
        subst hnil
        have hrd : ∀ q ∈ qs, Rdy b H3 C1 q.natAbs := fun q hq => (rd3 _ (hp.parts q hq).1.2).mp ((f4 q hq).resolve_right (by simp))
        refine onO_ok X.self (onO_ok (m_combined K3.B) (onO_ok rfl (k_combined_ok (d := d) K3 ((Keep.no F3).pl _ _ hpl) h1 hg1 hrd (by lia) fun c H4 F4 K4 ho => onO_ok X.self (g_kn K4.B (onO_ok rfl ?_)))))
        obtain ⟨kv, z1, znd, zr⟩ := id K4.known
        have hkl : kv.length ≤ C1.length := keys_len znd fun k hk => by
          obtain ⟨v, hv⟩ := look_key.mp hk
          obtain ⟨i, _, y1, _, y3, _⟩ := zr k v hv
          exact ⟨i, y1, y3⟩
        refine sSubI_ok z1 (by lia) fun H5 s5 => ?_
        obtain ⟨K5, k5, kn5⟩ := known_store K4 z1 h1 hg1 ho s5
        refine h_done hnr C1 _ _ eC lC ⟨K5, (fr3.trans (FB_SS F4)).set1 s5 z1 rfl (.inl (.inr (.inl rfl))), X.low, X.hb, X.stack, X.self, X.gate, ?_⟩ ((k3.trans (Keep.ss F4)).trans k5) kn5
        rw [s5.ne _ (by lia), F4.get _ _ l3' (.inr (by unfold SS; first | decide | (first | exact Nat.ne_of_gt (Nat.lt_of_lt_of_le (by assumption) (by assumption)) | lia)))]; simp [nats]
end
end Mine
end
section
open PySem PySem.W PyProof.Rows
set_option maxRecDepth 100000
set_option linter.unusedVariables false
set_option autoImplicit false
namespace Mine
section
variable {n b : Nat} {H H' : Hp} {C C' : Ck} {P : Params} {a : Addr} {l : List Int} {d : Nat} {Q : V → Hp → Prop}
variable {H0 : Hp} {s : Nat} {gate : Int}
theorem StkI.top {st : List Nat} {g : Nat} {m : Loc} (X : StkI n b H0 s gate (st ++ [g]) C m H) (hl : st.length ≤ 1000) {B : Loc → Hp → (Loc → Hp → Prop) → Prop} {kn : Loc → Hp → Prop} {M : Nat} (h : B m H fun m2 H2 => whl cntT B M m2 H2 kn) : whl cntT B (M + 1) m H kn := by
  have hlim : lim = 1048576 := rfl
  show cntT m H _
  unfold cntT
  refine onO_ok X.stack (len_ok (n := st.length + 1) X.list (by simp [lenOf, nats]) (by lia) (gt_ok ?_))
  rw [show decide ((0 : Int) < ((st.length + 1 : Nat) : Int)) = true from decide_eq_true (by lia)]
  exact h
theorem StkI.bot {m : Loc} (X : StkI n b H0 s gate [] C m H) {B : Loc → Hp → (Loc → Hp → Prop) → Prop} {kn : Loc → Hp → Prop} {M : Nat} (h : kn m H) : whl cntT B (M + 1) m H kn := by
  show cntT m H _
  unfold cntT
  exact onO_ok X.stack (len_ok (n := 0) X.list (by (first | rfl | simp [lenOf])) (by decide) (gt_ok h))
/-- what processing one gate on the stack leads to -/
noncomputable def Proc (P : Params) (a : Addr) (l : List Int) (d n b : Nat) (H0 : Hp) (s : Nat) (gate : Int) (kn : Loc → Hp → Prop) (k : Nat) : Prop :=
  ∀ (g : Nat) (st : List Nat) (C : Ck) (m : Loc) (H : Hp), StkI n b H0 s gate (st ++ [g]) C m H → 1 ≤ g → g < C.length → sn n (Sp C g) ≤ k → st.length + 4 * k + 4 ≤ 100 → C.length + Ft k + 200 < lim → ∀ N0,
    (∀ M, N0 ≤ M → ∀ C' m' H', C <+: C' → C'.length ≤ C.length + Ft k → StkI n b H0 s gate st C' m' H' → Keep (Ns s) b H H' → Rdy b H' C' g → whl cntT (cntB (TT P a l) (callA (TT P a l) (d + 6))) M m' H' kn) →
    ∀ M, N0 + Wt k ≤ M → whl cntT (cntB (TT P a l) (callA (TT P a l) (d + 6))) M m H kn
theorem proc_list {kn : Loc → Hp → Prop} {k : Nat} (hP : Proc P a l d n b H0 s gate kn k) (Lk : List Nat) : ∀ (st : List Nat) (C : Ck) (m : Loc) (H : Hp), StkI n b H0 s gate (st ++ Lk) C m H → (∀ j ∈ Lk, 1 ≤ j ∧ j < C.length ∧ sn n (Sp C j) ≤ k) → st.length + Lk.length + 4 * k + 4 ≤ 101 →
    C.length + Lk.length * Ft k + 200 < lim → ∀ N0,
    (∀ M, N0 ≤ M → ∀ C' m' H', C <+: C' → C'.length ≤ C.length + Lk.length * Ft k → StkI n b H0 s gate st C' m' H' → Keep (Ns s) b H H' → (∀ j ∈ Lk, Rdy b H' C' j) → whl cntT (cntB (TT P a l) (callA (TT P a l) (d + 6))) M m' H' kn) →
    ∀ M, N0 + Lk.length * Wt k ≤ M → whl cntT (cntB (TT P a l) (callA (TT P a l) (d + 6))) M m H kn := by
  induction Lk using snoc_ind with
  | h0 =>
    intro st C m H X _ _ _ N0 h M hM
    exact h M (by simpa using hM) C m H (List.prefix_refl _) (by simp) (by simpa using X) .refl (by simp)
  | h1 Lk j ih =>
    intro st C m H X hj hlen hs N0 h M hM
    have e1 : (Lk ++ [j]).length = Lk.length + 1 := by (first | exact List.length_append | simp)
    rw [e1] at hlen hs hM
    have e2 : (Lk.length + 1) * Ft k = Lk.length * Ft k + Ft k := Nat.succ_mul ..
    have e3 : (Lk.length + 1) * Wt k = Lk.length * Wt k + Wt k := Nat.succ_mul ..
    obtain ⟨j1, j2, j3⟩ := hj j (by (first | exact List.mem_append_right _ (List.mem_cons_self ..) | simp))
    rw [← List.append_assoc] at X
    refine hP j (st ++ Lk) C m H X j1 j2 j3 (by simp; lia) (by lia) (N0 + Lk.length * Wt k) (fun M1 hM1 C1 m1 H1 eC lC X1 k1 r1 => ?_) M (by lia)
    refine ih st C1 m1 H1 X1 (fun i hi => ?_) (by lia) (by lia) N0 (fun M2 hM2 C2 m2 H2 eC2 lC2 X2 k2 r2 => ?_) M1 hM1
    · obtain ⟨i1, i2, i3⟩ := hj i (by (first | exact List.mem_append_left _ (by assumption) | simp [hi]))
      refine ⟨i1, Nat.lt_of_lt_of_le i2 eC.length_le, ?_⟩
      rw [sn_congr (fun x => Sp.ext X.K.wf eC i2) n]; exact i3
    · refine h M2 hM2 C2 m2 H2 (eC.trans eC2) (by rw [e1]; lia) X2 (k1.trans k2) fun i hi => ?_
      rcases List.mem_append.mp hi with hi | hi
      · exact r2 i hi
      · rw [List.mem_singleton.mp hi]
        exact r1.keep k2 eC2 (Nat.lt_of_lt_of_le j2 eC.length_le)
theorem proc_all {kn : Loc → Hp → Prop} : ∀ k, Proc P a l d n b H0 s gate kn k := by
  intro k
  induction k with
  | zero =>
    intro g st C m H X h1 hg hsn hlen hs N0 h M hM
    have hM' : N0 + 1 ≤ M := hM
    obtain ⟨M, rfl⟩ : ∃ M', M = M' + 1 := ⟨M - 1, by (first | exact (Nat.sub_add_cancel (by lia)).symm | lia)⟩
    refine X.top (by lia) (cnt_turn X h1 hg (by lia) (by lia) (fun hr m' H' X' k' => h M (by (first | exact Nat.le_of_lt_succ (by assumption) | lia)) C m' H' (List.prefix_refl _) (by (first | exact Nat.le_refl _ | lia)) X' k' (hr.keep k' (List.prefix_refl _) hg)) (fun hn => ?_) fun hn => ?_)
    all_goals
      exfalso
      obtain ⟨ps, hps⟩ : ∃ ps, C[g]? = some (.and ps) := Classical.byContradiction fun z => hn (.inr fun ps e => z ⟨ps, e⟩)
      have := (X.K.wf.at hps).ge
      have := sg_pos (n := n) X.K.wf (p := (g : Int)) (by show 2 ≤ g; (first | exact Nat.lt_of_le_of_lt (Nat.le_add_left ..) (by assumption) | lia)) ⟨h1, hg⟩
      have e : sg n C (g : Int) = sn n (Sp C g) := rfl
      lia
  | succ k ih =>
    intro g st C m H X h1 hg hsn hlen hs N0 h M hM
    have hW : Wt (k + 1) = 3 + 3 * Wt k := rfl
    have hF : Ft (k + 1) = 96 + 3 * Ft k := rfl
    rw [hW] at hM
    rw [hF] at hs
    obtain ⟨M, rfl⟩ : ∃ M', M = M' + 1 := ⟨M - 1, by (first | exact (Nat.sub_add_cancel (by lia)).symm | lia)⟩
    -- the gate is known: it is popped
    have last : ∀ M1, N0 + 1 ≤ M1 → ∀ C1 m1 H1, C <+: C1 → C1.length ≤ C.length + Ft (k + 1) → StkI n b H0 s gate (st ++ [g]) C1 m1 H1 → Keep (Ns s) b H H1 → Kn b H1 g → whl cntT (cntB (TT P a l) (callA (TT P a l) (d + 6))) M1 m1 H1 kn := fun M1 hM1 C1 m1 H1 eC lC X1 k1 kn1 => by
      obtain ⟨M1, rfl⟩ : ∃ M', M1 = M' + 1 := ⟨M1 - 1, by (first | exact (Nat.sub_add_cancel (by lia)).symm | lia)⟩
      have hr : Rdy b H1 C1 g := .inl kn1
      rw [hF] at lC
      exact X1.top (by lia) (cnt_turn X1 h1 (Nat.lt_of_lt_of_le hg eC.length_le) (by lia) (by lia) (fun _ m' H' X' k' => h M1 (by (first | exact Nat.le_of_lt_succ (by assumption) | lia)) C1 m' H' eC (by (first | assumption | lia)) X' (k1.trans k') (hr.keep k' (List.prefix_refl _) (Nat.lt_of_lt_of_le hg eC.length_le))) (fun hn => absurd hr hn) fun hn => absurd hr hn)
    refine X.top (by lia) (cnt_turn X h1 hg (by lia) (by lia) (fun hr m' H' X' k' => h M (by lia) C m' H' (List.prefix_refl _) (by (first | exact Nat.le_add_right _ _ | lia)) X' k' (hr.keep k' (List.prefix_refl _) hg)) (fun hn C1 qs Lk m1 H1 eC lC X1 k1 hpl hq hj hne h3 hok => ?_) fun hn C1 m1 H1 eC lC X1 k1 kn1 => last M (by lia) C1 m1 H1 eC (by lia) X1 k1 kn1)
    obtain ⟨kd, hok⟩ := hok
    have hsg1 : sn n (Sp C1 g) = sn n (Sp C g) := sn_congr (fun x => Sp.ext X.K.wf eC hg) n
    have b3 : Lk.length * Ft k ≤ 3 * Ft k := Nat.mul_le_mul_right _ h3
    have w3 : Lk.length * Wt k ≤ 3 * Wt k := Nat.mul_le_mul_right _ h3
    have hg1 : g < C1.length := Nat.lt_of_lt_of_le hg eC.length_le
    refine proc_list ih Lk (st ++ [g]) C1 m1 H1 X1 (fun j hjm => ?_) (by simp; lia) (by lia) (N0 + 2) (fun M2 hM2 C2 m2 H2 eC2 lC2 X2 k2 r2 => ?_) M (by lia)
    · obtain ⟨q, hqm, rfl, _⟩ := hj j hjm
      obtain ⟨v1, v2⟩ := hok.parts q hqm
      refine ⟨v1.1, v1.2, ?_⟩
      have : sg n C1 q = sn n (Sp C1 q.natAbs) := rfl
      lia
    · -- back at the gate, its parts all ready
      obtain ⟨M2, rfl⟩ : ∃ M', M2 = M' + 1 := ⟨M2 - 1, by (first | exact (Nat.sub_add_cancel (by lia)).symm | lia)⟩
      have hg2 : g < C2.length := Nat.lt_of_lt_of_le hg1 eC2.length_le
      have hall : ∀ q ∈ qs, Rdy b H2 C2 q.natAbs := fun q hqm => (hq q hqm).elim (fun z => z.keep k2 eC2 (hok.parts q hqm).1.2) fun z => r2 _ z
      have hpl2 := k2.pl _ _ hpl
      refine X2.top (by lia) (cnt_turn X2 h1 hg2 (by lia) (by lia) (fun hr m' H' X' k' => h M2 (by lia) C2 m' H' (eC.trans eC2) (by lia) X' ((k1.trans k2).trans k') (hr.keep k' (List.prefix_refl _) hg2)) (fun hn C3 qs' Lk' m3 H3 eC3 lC3 X3 k3 hpl3 hq3 hj3 hne3 _ hok3 => ?_) fun hn C3 m3 H3 eC3 lC3 X3 k3 kn3 => last M2 (by (first | exact Nat.le_of_lt_succ (by assumption) | lia)) C3 m3 H3 ((eC.trans eC2).trans eC3) (by lia) X3 ((k1.trans k2).trans k3) kn3)
      exfalso
      have : qs = qs' := (k3.pl _ _ hpl2).uniq hpl3
      subst this
      obtain ⟨j, hjm⟩ := List.exists_mem_of_ne_nil _ hne3
      obtain ⟨q, hqm, rfl, hnr⟩ := hj3 j hjm
      exact hnr ((hall q hqm).keep k3 eC3 (Nat.lt_of_lt_of_le (hok.parts q hqm).1.2 eC2.length_le))
theorem k_count_ok {p : Int} (K : Ctr (fun _ => True) n b H C) (hv : Vd C p) (hs : C.length + Ft 4 + 200 < lim)
    (q : ∀ C' H', C <+: C' → C'.length ≤ C.length + Ft 4 → Ctr (fun _ => True) n b H' C' → Fr' (SB b) H H' → Q (.int ((Sm n (fun ρ => Vl ρ C p) : Nat) : Int)) H') : callA (TT P a l) (d + 7) 107 [.ref (b + 1), .int p] H Q := by
  rw [rd_k_count_eq]
  show bltV "abs" [.int p] H fun v1 H2 => newO H2 (.list [v1]) fun v3 H4 => ∃ n5, whl cntT (cntB (TT P a l) (callA (TT P a l) (d + 6))) n5 (("stack", v3) :: (("gate", .int p) :: (("self", .ref (b + 1)) :: []))) H4 fun m12 H13 => _
  have hlim : lim = 1048576 := rfl
  refine abs_ok (newO_ok fun H1 F1 l1 e1 => ⟨1 + Wt 4, ?_⟩)
  have hb := K.sup.len
  have hle := sn_le n (Sp C p.natAbs)
  have h4 := K.four
  have X : StkI n b H H.length p ([] ++ [p.natAbs]) C (("stack", .ref H.length) :: (("gate", .int p) :: (("self", .ref (b + 1)) :: []))) H1 :=
    ⟨(K.mono fun u hu _ => Nat.ne_of_lt hu).no F1, F1.no, Nat.le_refl _, hb, rfl, rfl, rfl, by rw [e1]; simp [nats]⟩
  refine proc_all 4 p.natAbs [] C _ H1 X hv.1 hv.2 (by (first | exact Nat.le_trans (by assumption) (by assumption) | lia)) (by decide) (by (first | assumption | lia)) 1 (fun M hM C2 m2 H2 eC lC X2 k2 hr => ?_) _ (Nat.le_refl _)
  obtain ⟨M, rfl⟩ : ∃ M', M = M' + 1 := ⟨M - 1, by (first | exact (Nat.sub_add_cancel (by assumption)).symm | lia)⟩
  refine X2.bot ?_
  have hv2 := hv.ext eC
  refine onO_ok X2.self (onO_ok (m_own X2.K.B) (onO_ok X2.gate (k_own_ok (d := d + 2) X2.K hv2 hr (by lia) fun c H3 F3 K3 ho => onO_ok X2.self (g_inputs K3.B ?_))))
  obtain ⟨xs, i1, i2⟩ := K3.inputs
  refine len_ok (n := n) i1 (by simp [lenOf, i2]) (by (first | exact Nat.lt_of_le_of_lt (by assumption) (by decide) | lia)) (onO_ok X2.self (onO_ok (m_support K3.B) (onO_ok X2.gate (k_len_sup (N' := fun _ => True) (d := d + 3) K3 hv2 (by lia) fun H4 F4 K4 => sub_ok' ?_))))
  have hsg : sg n C2 p ≤ n := sn_le _ _
  have hc16 := own16 h4 ho
  refine shl_ok (small_of (by (first | exact Nat.le_trans (by assumption) (by decide) | lia))) (by lia) (by lia) ?_
  have e : (n : Int) - ((sg n C2 p : Nat) : Int) = ((n - sg n C2 p : Nat) : Int) := (Int.natCast_sub (sn_le ..)).symm
  rw [e, Int.toNat_natCast]
  have ho' : c * 2 ^ (n - sg n C2 p) = Sm n fun ρ => Vl ρ C2 p := ho
  have e2 : (c : Int) * 2 ^ (n - sg n C2 p) = ((Sm n (fun ρ => Vl ρ C p) : Nat) : Int) := by
    rw [← Sm_congr (fun ρ => Vl_ext eC hv) n, ← ho']; simp
  rw [e2]
  exact q C2 H4 eC lC (K4.mono fun _ _ _ => trivial) ((X2.fr.trans (FB_SS F3)).trans (FB_SS F4))
end
end Mine
end
section
open PySem PySem.W PyProof.Rows
set_option maxRecDepth 100000
set_option linter.unusedVariables false
set_option autoImplicit false
namespace Mine
theorem int_ok {H : Hp} {Q : V → Hp → Prop} {i : Int} (q : Q (.int i) H) : typV "int" [.int i] H Q := by
  unfold typV; simp only [if_true]; exact q
theorem brBT {A B : Prop} (h : A) : brB true A B := h
theorem brBF {A B : Prop} (h : B) : brB false A B := h
structure FeedAt (H : Hp) (k : Nat) : Prop where
  ex : ∃ cells : List Int, H[2]? = some (.dictS [("cells", .ref 1), ("spot", .int (k : Int))]) ∧ H[1]? = some (.list (cells.map V.int)) ∧ cells.length ≤ 48
noncomputable def SF : Nat → Prop := fun j => j = 2
theorem smallI_of {x : Int} (h1 : -1000000000 ≤ x) (h2 : x ≤ 1000000000) : smallI x := by
  unfold smallI
  have : (2 : Int) ^ 40 = 1099511627776 := by decide
  lia
theorem range_split {R : Nat} {dn rs : List Nat} {r : Nat} (h : List.range R = dn ++ r :: rs) : r = dn.length ∧ r < R := by
  have h1 : (List.range R)[dn.length]? = some r := by rw [h]; simp
  have h2 := (List.getElem?_eq_some_iff.mp h1).1
  rw [List.length_range] at h2
  rw [List.getElem?_range h2] at h1
  have := Option.some.inj h1
  exact ⟨this.symm, by lia⟩
theorem rng_items {R : Nat} : (List.range ((R : Int) - 0).toNat).map (fun (i : Nat) => V.int (0 + (i : Int))) = (List.range R).map fun (i : Nat) => V.int (i : Int) := by
  rw [show ((R : Int) - 0).toNat = R by (first | rfl | lia)]
  refine List.map_congr_left fun i _ => ?_
  rw [Int.zero_add]
section
variable {n b : Nat} {H H' : Hp} {C C' : Ck} {P : Params} {a : Addr} {l : List Int} {d : Nat} {Q : V → Hp → Prop}
theorem law_next_ok {k w : Nat} (F : FeedAt H k) (hk : k ≤ 1000) (hw : 0 < w) (hw2 : w ≤ 1000) (q : ∀ r : Nat, r < w → ∀ H', FeedAt H' (k + 1) → Fr' SF H H' → Q (.int (r : Int)) H') : callA (TT P a l) (d + 1) 231 [.ref 2, .int (w : Int)] H Q := by
  rw [rd_law_next_eq]
  unfold rd_law_next
  obtain ⟨cells, e1, e2, e3⟩ := F.ex
  have hlim : lim = 1048576 := rfl
  refine sub_S e1 (by rfl) (add_ok (sSubS_ok e1 (by simp; (first | exact Nat.le_add_left _ _ | lia)) fun H1 s1 => ?_))
  have c1 := s1.get e2 (by decide)
  have d1 : H1[2]? = some (.dictS [("cells", .ref 1), ("spot", .int ((k : Int) + 1))]) := s1.at_
  have F1 : FeedAt H1 (k + 1) := ⟨cells, by rw [d1]; simp, c1, e3⟩
  have fr : Fr' SF H H1 := Fr'.refl.set1 s1 e1 rfl (.inl rfl)
  have fin : ∀ x : Int, Q (.int (Int.fmod x (w : Int))) H1 := fun x => by
    have h1 := Int.fmod_nonneg_of_pos x (show (0 : Int) < (w : Int) by (first | exact Int.ofNat_lt.mpr (by assumption) | lia))
    have h2 := Int.fmod_lt_of_pos x (show (0 : Int) < (w : Int) by (first | exact Int.ofNat_lt.mpr (by assumption) | lia))
    have := q (Int.fmod x (w : Int)).toNat (by omega) H1 F1 fr
    rw [Int.toNat_of_nonneg h1] at this; exact this
  refine sub_S d1 (by rfl) (len_ok (n := cells.length) c1 (by (first | exact congrArg some (List.length_map ..) | simp [lenOf])) (by (first | exact Nat.lt_of_le_of_lt (by assumption) (by decide) | lia)) (lt_ok (brQ_ok (fun h => ?_) fun h => ?_)))
  · have h := of_decide_eq_true h
    have hk' : k < cells.length := by (first | exact Int.ofNat_lt.mp (by assumption) | lia)
    refine sub_S d1 (by rfl) (sub_list c1 (v := .int cells[k]) (by rw [List.getElem?_map, List.getElem?_eq_getElem hk']; rfl) (by (first | exact Nat.lt_of_le_of_lt (by assumption) (by decide) | lia)) ?_)
    exact mod_ok (by (first | exact Int.ofNat_lt.mpr (by assumption) | lia)) (fin _)
  · have hw' : (0 : Int) < (w : Int) := by (first | exact Int.ofNat_lt.mpr (by assumption) | lia)
    refine onO_ok rfl (mul_ok (smallI_of (by decide) (by decide)) (smallI_of (by (first | exact Int.natCast_nonneg _ | lia)) (by lia)) (onO_ok rfl (mul_ok (smallI_of (by (first | exact Int.natCast_nonneg _ | lia)) (by lia)) (smallI_of (by (first | exact Int.natCast_nonneg _ | lia)) (by lia)) (onO_ok rfl (mul_ok (smallI_of (by decide) (by decide)) (smallI_of (by (first | exact Int.natCast_nonneg _ | lia)) (by lia)) (add_ok (onO_ok rfl (sub_S d1 (by rfl) (len_ok (n := cells.length) c1 (by (first | exact congrArg some (List.length_map ..) | simp [lenOf])) (by (first | exact Nat.lt_of_le_of_lt (by assumption) (by decide) | lia)) ?_)))))))))
    exact mul_ok (smallI_of (by decide) (by decide)) (smallI_of (by (first | exact Int.natCast_nonneg _ | lia)) (by lia)) (add_ok (add_ok (int_ok (mod_ok (y := 97) (by decide) (onO_ok rfl (mod_ok hw' (fin _)))))))
theorem law_input_table_ok {k R : Nat} (hk : k ≤ 3) (hR : R ≤ 16) (q : ∀ H', Fr' NoS H H' → Q (.int (tabI R fun r => r.testBit k)) H') : callA (TT P a l) (d + 1) 236 [.int (k : Int), .int (R : Int)] H Q := by
  rw [rd_law_input_table_eq]
  unfold rd_law_input_table
  have hlim : lim = 1048576 := rfl
  refine rng_ok (smallI_of (by (first | exact Int.natCast_nonneg _ | lia)) (by lia)) (newO_ok fun H1 F1 l1 e1 => over_rng e1 ?_)
  rw [rng_items]
  refine ⟨by simp; (first | exact Nat.lt_of_le_of_lt (by assumption) (by decide) | lia), ?_⟩
  refine cmpL_ok (fun rest acc H' => ∃ (dn rs : List Nat) (xs : List Int), List.range R = dn ++ rs ∧ rest = rs.map (fun (i : Nat) => V.int (i : Int)) ∧ acc = xs.map V.int ∧ H' = H1 ∧ xs.sum = ((tb dn.length (fun r => r.testBit k) : Nat) : Int)) ?_ ?_ _ _ _ ⟨[], List.range R, [], rfl, rfl, rfl, rfl, rfl⟩
    fun rest acc H' x => by obtain ⟨_, _, _, _, _, _, rfl, _⟩ := x; exact e1
  · rintro v rest acc H2 kk ⟨dn, rs, xs, f1, f2, rfl, rfl, f3⟩ K
    obtain ⟨r, rs, rfl, rfl, rfl⟩ := map_cons_inv f2
    obtain ⟨hr, hrR⟩ := range_split f1
    have p1 : (2 : Int) ^ ((k : Int).toNat) = ((2 ^ k : Nat) : Int) := by rw [Int.toNat_natCast]; simp
    have hp : 2 ^ k ≤ 8 := Nat.le_trans (Nat.pow_le_pow_right (by decide) hk) (by decide)
    have hp0 : 0 < 2 ^ k := Nat.two_pow_pos k
    refine onO_ok (by rw [law_input_table_sc0_k]; rfl) (pow_ok (by (first | exact Int.natCast_nonneg _ | lia)) (by lia) ?_)
    rw [p1]
    refine div_ok (by (first | exact Int.ofNat_lt.mpr (by assumption) | lia)) (by lia) (mod_ok (by decide) (eq_ok ?_))
    have ec : (Int.fmod (Int.fdiv (r : Int) ((2 ^ k : Nat) : Int)) 2 == 1) = r.testBit k := by
      rw [Int.fdiv_eq_ediv_of_nonneg _ (by (first | exact Int.natCast_nonneg _ | lia)), Int.fmod_eq_emod_of_nonneg _ (by decide), Nat.testBit_eq_decide_div_mod_eq]
      have e : ((r : Int) / ((2 ^ k : Nat) : Int)) % 2 = ((r / 2 ^ k % 2 : Nat) : Int) := by norm_cast
      rw [e]
      by_cases h : r / 2 ^ k % 2 = 1
      · rw [h]; rfl
      · rw [decide_eq_false h]
        simp only [beq_eq_false_iff_ne]; lia
    rw [ec]
    have top := tb_top dn.length (fun r => r.testBit k)
    rw [← hr] at top f3
    cases hb : r.testBit k with
    | true =>
      refine brBT (pow_ok (by (first | exact Int.natCast_nonneg _ | lia)) (by lia) ?_)
      rw [Int.toNat_natCast]
      refine K (some (.int ((2 : Int) ^ r))) _ ⟨dn ++ [r], rs, xs ++ [(2 : Int) ^ r], by rw [f1]; simp, rfl, by (first | (rw [List.map_append]; rfl) | simp), rfl, ?_⟩
      rw [List.sum_append, f3, List.length_append, List.length_singleton, ← hr, top, hb]
      simp
    | false =>
      refine brBF (K .none _ ⟨dn ++ [r], rs, xs, by rw [f1]; simp, rfl, rfl, rfl, ?_⟩)
      rw [f3, List.length_append, List.length_singleton, ← hr, top, hb]
      simp
  · rintro acc H2 ⟨dn, rs, xs, f1, f2, rfl, rfl, f3⟩
    obtain rfl := map_nil_inv f2
    have hdn : dn.length = R := by have := congrArg List.length f1; simpa using this.symm
    refine newO_ok fun H3 F3 l3 e3 => sum_ok e3 (ints_map _) ?_
    rw [f3, hdn]
    exact q H3 (F1.trans F3)
theorem law_table_ok {w R : Nat} {f g h : Nat → Bool} (q : Q (.int (tabI R fun r => wayF w (f r) (g r) (h r))) H) : callA (TT P a l) (d + 1) 250 [.int (w : Int), .int (tabI R f), .int (tabI R g), .int (tabI R h), .int (2 ^ R - 1)] H Q := by
  rw [rd_law_table_eq]
  unfold rd_law_table
  have fin : ∀ {f' : Nat → Bool} {x : Int}, x = tabI R f' → (∀ r, f' r = wayF w (f r) (g r) (h r)) → Q (.int x) H := fun {f' x} e hh => by
    rw [e, show f' = fun r => wayF w (f r) (g r) (h r) from funext hh]; exact q
  refine eq_ok (brQ_ok (fun h1 => ?_) fun h1 => ?_)
  · obtain rfl : w = 0 := by have h1 : (w : Int) = 0 := by (first | exact eq_of_beq h1 | simpa using h1)
                             (first | exact Int.ofNat_inj.mp (by assumption) | lia)
    refine band_ok (band_ok ?_)
    rw [tI_and, tI_and]; exact fin rfl fun r => rfl
  have w0 : w ≠ 0 := fun e => by subst e; simp at h1
  refine onO_ok rfl (eq_ok (brQ_ok (fun h1 => ?_) fun h1 => ?_))
  · obtain rfl : w = 1 := by have h1 : (w : Int) = 1 := by (first | exact eq_of_beq h1 | simpa using h1)
                             (first | exact Int.ofNat_inj.mp (by assumption) | lia)
    refine onO_ok rfl (onO_ok rfl (bor_ok (onO_ok rfl (bor_ok ?_))))
    rw [tI_or, tI_or]; exact fin rfl fun r => rfl
  have w1 : w ≠ 1 := fun e => by subst e; simp at h1
  refine onO_ok rfl (eq_ok (brQ_ok (fun h1 => ?_) fun h1 => ?_))
  · obtain rfl : w = 2 := by have h1 : (w : Int) = 2 := by (first | exact eq_of_beq h1 | simpa using h1)
                             (first | exact Int.ofNat_inj.mp (by assumption) | lia)
    refine onO_ok rfl (onO_ok rfl (onO_ok rfl (bxor_ok (sub_ok' ?_))))
    rw [tI_xor, tI_not]; exact fin rfl fun r => by show (!(f r != g r)) = (f r == g r); cases f r <;> cases g r <;> rfl
  have w2 : w ≠ 2 := fun e => by subst e; simp at h1
  refine onO_ok rfl (eq_ok (brQ_ok (fun h1 => ?_) fun h1 => ?_))
  · obtain rfl : w = 3 := by have h1 : (w : Int) = 3 := by (first | exact eq_of_beq h1 | simpa using h1)
                             (first | exact Int.ofNat_inj.mp (by assumption) | lia)
    refine onO_ok rfl (onO_ok rfl (bxor_ok ?_))
    rw [tI_xor]; exact fin rfl fun r => rfl
  have w3 : w ≠ 3 := fun e => by subst e; simp at h1
  refine onO_ok rfl (eq_ok (brQ_ok (fun h1 => ?_) fun h1 => ?_))
  · obtain rfl : w = 4 := by have h1 : (w : Int) = 4 := by (first | exact eq_of_beq h1 | simpa using h1)
                             (first | exact Int.ofNat_inj.mp (by assumption) | lia)
    refine onO_ok rfl (onO_ok rfl (band_ok (onO_ok rfl (onO_ok rfl (sub_ok' (onO_ok rfl (band_ok (bor_ok ?_))))))))
    rw [tI_and, tI_not, tI_and, tI_or]
    exact fin rfl fun r => by show (f r && g r || !f r && h r) = ((!f r || g r) && (f r || h r)); cases f r <;> cases g r <;> cases h r <;> rfl
  have w4 : w ≠ 4 := fun e => by subst e; simp at h1
  refine onO_ok rfl (onO_ok rfl (sub_ok' (onO_ok rfl (bor_ok ?_))))
  rw [tI_not, tI_or]
  refine fin rfl fun r => ?_
  unfold wayF
  split <;> first | contradiction | rfl
theorem law_ones_ok {t : Nat} (q : ∀ H', Fr' NoS H H' → Q (.int ((ones t : Nat) : Int)) H') : callA (TT P a l) (d + 1) 257 [.int (t : Int)] H Q := by
  rw [rd_law_ones_eq]
  unfold rd_law_ones
  refine whl_ok (fun k m H' => ∃ f u : Nat, k = u ∧ f + ones u = ones t ∧ Fr' NoS H H' ∧ lk "found" m = some (.int (f : Int)) ∧ lk "table" m = some (.int (u : Int))) ?_ t _ _ ⟨0, t, rfl, by lia, .refl, rfl, rfl⟩
  rintro k m H2 K ⟨f, u, rfl, e1, F2, m1, m2⟩ kk
  refine onO_ok m2 (gt_ok ?_)
  rcases Nat.eq_zero_or_pos k with h0 | h0
  · subst h0
    have := ones_zero
    refine onO_ok m1 ?_
    have := q H2 F2
    rw [show ones t = f by lia] at this; exact this
  · rw [show decide ((0 : Int) < (k : Int)) = true from decide_eq_true (by (first | exact Int.ofNat_lt.mpr (by assumption) | lia))]
    refine onO_ok m1 (onO_ok m2 (mod_ok (by decide) (add_ok (onO_ok m2 (div_ok (by decide) (by decide) (newO_ok fun H3 F3 l3 e3 => bindN_ok e3 rfl (kk (k / 2) _ _ (by lia) ⟨f + k % 2, k / 2, rfl, ?_, F2.trans F3, ?_, ?_⟩)))))))
    · have := ones_step h0
      lia
    · show some (V.int _) = _
      rw [Int.fmod_eq_emod_of_nonneg _ (by decide)]; congr 2
    · show some (V.int _) = _
      rw [Int.fdiv_eq_ediv_of_nonneg _ (by decide)]; congr 2
end
end Mine
end
section
open PySem PySem.W PyProof.Rows
set_option maxRecDepth 100000
set_option linter.unusedVariables false
set_option autoImplicit false
namespace Mine
/-- gate p's table over R rows -/
noncomputable def gT (R : Nat) (C : Ck) (p : Int) : Int := tabI R fun r => Vl (rowOf r) C p
noncomputable def gN (R : Nat) (C : Ck) (i : Nat) : Int := tabI R fun r => vl (rowOf r) C i
theorem gT_neg {R : Nat} {C : Ck} {p : Int} (h : Vd C p) : (2 ^ R - 1 : Int) - gT R C p = gT R C (-p) := by
  unfold gT; rw [tI_not]; unfold tabI; rw [tb_congr R fun r _ => (Vl_neg h).symm]
theorem gT_nat {R : Nat} {C : Ck} {i : Nat} (h : 1 ≤ i) : gT R C (i : Int) = gN R C i := by
  unfold gT gN tabI; rw [tb_congr R fun r _ => Vl_nat h]
theorem gT_ext {R : Nat} {C C' : Ck} {p : Int} (e : C <+: C') (h : Vd C p) : gT R C' p = gT R C p := by
  unfold gT tabI; rw [tb_congr R fun r _ => Vl_ext e h]
theorem gN_one {n R : Nat} {C : Ck} (W : WF n C) : gN R C 1 = 2 ^ R - 1 := by
  rw [tI_full]; unfold gN tabI; rw [tb_congr R fun r _ => vl_one W _]
theorem gN_inp {R : Nat} {C : Ck} {k : Nat} (h : C[k + 2]? = some .inp) : gN R C (k + 2) = tabI R fun r => r.testBit k := by
  unfold gN tabI
  rw [tb_congr R fun r _ => vl_inp h _]
  rfl
section
variable {n b : Nat} {H H' : Hp} {C C' : Ck} {P : Params} {a : Addr} {l : List Int} {d : Nat} {Q : V → Hp → Prop}
noncomputable def KeysIn (C : Ck) (kvs : List (Int × V)) : Prop := (kvs.map (·.1)).Nodup ∧ ∀ k ∈ kvs.map (·.1), ∃ i : Nat, k = (i : Int) ∧ i < C.length
theorem KeysIn.put {kvs : List (Int × V)} (h : KeysIn C kvs) {i : Nat} (hi : i < C.length) (v : V) : KeysIn C (put (i : Int) v kvs) := by
  refine ⟨put_nodup h.1, fun k hk => ?_⟩
  rcases put_keys.mp hk with rfl | hk
  · exact ⟨i, rfl, hi⟩
  · exact h.2 k hk
inductive OwA (n : Nat) (C : Ck) (H : Hp) (k1 il : Nat) (p : Int) (rest : List V) (m : Loc) (H' : Hp) : Prop
  | mk (dn rs : List Nat) (kvs : List (Int × V)) (h0 : List.range n = dn ++ rs) (h1 : rest = rs.map (fun (i : Nat) => V.int (i : Int))) (h2 : Fr' NoS H H') (h3 : lk "rows" m = some (.int ((2 ^ n : Nat) : Int))) (h4 : lk "known" m = some (.ref H.length)) (h5 : lk "inputs" m = some (.ref il)) (h6 : lk "gate" m = some (.int p)) (h7 : lk "circuit" m = some (.ref 4)) (h8 : H'[k1]? = some (.range 0 (n : Int))) (h9 : H'[H.length]? = some (.dictI kvs)) (h10 : KeysIn C kvs) (h11 : ∀ i : Nat, 1 ≤ i → i < dn.length + 2 → look (i : Int) kvs = some (.int (gN (2 ^ n) C i))) : OwA n C H k1 il p rest m H'
inductive OwB (n : Nat) (C : Ck) (H : Hp) (k3 : Nat) (p : Int) (rest : List V) (m : Loc) (H' : Hp) : Prop
  | mk (dn rs : List Nat) (kvs : List (Int × V)) (h0 : List.range (p.natAbs - 1) = dn ++ rs) (h1 : rest = rs.map (fun (i : Nat) => V.int ((i + 2 : Nat) : Int))) (h2 : Fr' NoS H H') (h3 : lk "rows" m = some (.int ((2 ^ n : Nat) : Int))) (h4 : lk "known" m = some (.ref H.length)) (h5 : lk "gate" m = some (.int p)) (h6 : lk "circuit" m = some (.ref 4)) (h7 : H'[k3]? = some (.range 2 (((p.natAbs : Nat) : Int) + 1))) (h8 : H'[H.length]? = some (.dictI kvs)) (h9 : KeysIn C kvs) (h10 : ∀ i : Nat, 1 ≤ i → (i < dn.length + 2 ∨ i < n + 2) → look (i : Int) kvs = some (.int (gN (2 ^ n) C i))) : OwB n C H k3 p rest m H'
inductive OwC (n : Nat) (C : Ck) (H : Hp) (k3 tp j : Nat) (p : Int) (ps : List Int) (rest : List V) (mm : Loc) (H' : Hp) : Prop
  | mk (dp rp : List Int) (kv : List (Int × V)) (h0 : rest = rp.map V.int) (h1 : ps = dp ++ rp) (h2 : Fr' NoS H H') (h3 : lk "rows" mm = some (.int ((2 ^ n : Nat) : Int))) (h4 : lk "known" mm = some (.ref H.length)) (h5 : lk "gate" mm = some (.int p)) (h6 : lk "circuit" mm = some (.ref 4)) (h7 : lk "g" mm = some (.int ((j + 2 : Nat) : Int))) (h8 : H'[k3]? = some (.range 2 (((p.natAbs : Nat) : Int) + 1))) (h9 : H'[tp]? = some (.tuple ((partsG (.and ps)).map V.int))) (h10 : H'[H.length]? = some (.dictI kv)) (h11 : KeysIn C kv) (h12 : look ((j + 2 : Nat) : Int) kv = some (.int (tabI (2 ^ n) fun r => dp.all fun p => Vl (rowOf r) C p))) (h13 : ∀ i : Nat, 1 ≤ i → i < j + 2 → look (i : Int) kv = some (.int (gN (2 ^ n) C i)) ∨ False) : OwC n C H k3 tp j p ps rest mm H'
theorem tn2 {m : Nat} (h : 1 ≤ m) : ((m : Int) + 1 - 2).toNat = m - 1 := by
  cases m with
  | zero => cases h
  | succ m => rw [show ((m + 1 : Nat) : Int) + 1 - 2 = (m : Int) by lia]; rfl
theorem law_own_table_ok {p : Int} {il : Nat} (A : CircAt H C) (W : WF n C) (h4 : n ≤ 4) (hv : Vd C p) (hi : H[il]? = some (.list ((List.range n).map fun k : Nat => V.int ((k + 2 : Nat) : Int)))) (q : ∀ H', Fr' NoS H H' → Q (.int (gT (2 ^ n) C p)) H') :
    callA (TT P a l) (d + 2) 271 [.ref 4, .ref il, .int p, .int ((2 ^ n : Nat) : Int)] H Q := by
  rw [rd_law_own_table_eq]
  unfold rd_law_own_table
  have hlim : lim = 1048576 := rfl
  have hsm := A.small
  have hR : 2 ^ n ≤ 16 := pow16 h4
  have hR0 : 0 < 2 ^ n := Nat.two_pow_pos n
  have hwl := W.len
  have hil := lt_of_get hi
  have efull : (2 : Int) ^ (((2 ^ n : Nat) : Int)).toNat - 1 = 2 ^ (2 ^ n) - 1 := by rw [Int.toNat_natCast]
  refine pow_ok (by lia) (by lia) (sub_ok' ?_)
  rw [efull]
  refine onO_ok rfl (newO_ok fun H1 F1 l1 e1 => len_ok (n := n) (F1.get _ _ hi (.inr fun z => z)) (by simp [lenOf]) (by (first | exact Nat.lt_of_le_of_lt (by assumption) (by decide) | lia)) (rng_ok (smallI_of (by lia) (by lia)) (newO_ok fun H2 F2 l2 e2 => over_rng e2 ?_)))
  rw [rng_items]
  have F12 : Fr' NoS H H2 := F1.trans F2
  have e12 := F2.get _ _ e1 (.inr fun z => z)
  -- what the dict holds: all below B, all inputs
  refine forL_ok (OwA n C H H1.length il p) ?_ ?_ _ _ _
    ⟨[], List.range n, putAll [] [(1, .int (2 ^ 2 ^ n - 1))], rfl, rfl, F12, rfl, rfl, rfl, rfl, rfl, e2, e12, ⟨by simp [putAll, put], fun k hk => ?_⟩, fun i h1 h2 => ?_⟩ fun rest m' H' x => by obtain ⟨_, _, _, _, _, _, _, _, _, _, _, x, _⟩ := x; exact x
  · rintro v rest m H3 K ⟨dn, rs, kvs, f1, f2, F3, m1, m2, m3, m4, m5, r3, d3, ki, hk⟩ kk
    obtain ⟨k, rs, rfl, rfl, rfl⟩ := map_cons_inv f2
    obtain ⟨hkd, hkn⟩ := range_split f1
    refine onO_ok m1 (law_input_table_ok (d := d) (by lia) hR fun H4 F4 => onO_ok m2 (onO_ok m3 ?_))
    have F34 := F3.trans F4
    refine sub_list (k := k) (F34.get _ _ hi (.inr fun z => z)) (v := .int ((k + 2 : Nat) : Int)) (by rw [List.getElem?_map, List.getElem?_range hkn]; rfl) (by lia) ?_
    have d4 := F4.get _ _ d3 (.inr fun z => z)
    have hkl : kvs.length < lim := Nat.lt_of_le_of_lt (keys_len ki.1 ki.2) hsm
    have hk2 : k + 2 < C.length := by lia
    refine sSubI_ok d4 hkl fun H5 s5 => kk _ _ ⟨dn ++ [k], rs, put ((k + 2 : Nat) : Int) (.int (tabI (2 ^ n) fun r => r.testBit k)) kvs, by rw [f1]; simp, rfl, F34.set1 s5 d4 rfl (.inr (Nat.le_refl _)), m1, m2, m3, m4, m5, s5.get (F4.get _ _ r3 (.inl rfl)) (by lia), s5.at_, ki.put hk2 _, fun i h1 h2 => ?_⟩
    rw [look_put]
    by_cases z : i = k + 2
    · subst z
      rw [if_pos rfl, gN_inp (W.inp (k + 2) (by lia) (by (first | exact Nat.add_lt_add_right (by assumption) _ | lia)))]
    · rw [if_neg (by lia)]
      simp at h2
      exact hk i h1 (by lia)
  · rintro m H3 ⟨dn, rs, kvs, f1, f2, F3, m1, m2, m3, m4, m5, r3, d3, ki, hk⟩
    obtain rfl := map_nil_inv f2
    have hdn : dn.length = n := by have := congrArg List.length f1; simpa using this.symm
    rw [hdn] at hk
    refine onO_ok m4 (abs_ok (add_ok (rng2_ok (smallI_of (by decide) (by decide)) (smallI_of (by lia) (by have := hv.2; lia)) (newO_ok fun H4 F4 l4 e4 => over_rng e4 ?_))))
    have hv1 := hv.1
    have hv2 := hv.2
    have eit : (List.range (((p.natAbs : Nat) : Int) + 1 - 2).toNat).map (fun (i : Nat) => V.int (2 + (i : Int))) = (List.range (p.natAbs - 1)).map (fun (i : Nat) => V.int ((i + 2 : Nat) : Int)) := by
      rw [tn2 hv.1]
      refine List.map_congr_left fun i _ => ?_
      congr 1; lia
    rw [eit]
    refine forL_ok (OwB n C H H3.length p) ?_ ?_ _ _ _
      ⟨[], List.range (p.natAbs - 1), kvs, rfl, rfl, F3.trans F4, m1, m2, m4, m5, e4, F4.get _ _ d3 (.inr fun z => z), ki, fun i h1 h2 => hk i h1 (by simp at h2; lia)⟩ fun rest m' H' x => by obtain ⟨_, _, _, _, _, _, _, _, _, _, x, _⟩ := x; exact x
    · rintro v rest m H5 K ⟨dn, rs, kvs, f1, f2, F5, m1, m2, m4, m5, r5, d5, ki, hk⟩ kk
      obtain ⟨j, rs, rfl, rfl, rfl⟩ := map_cons_inv f2
      obtain ⟨hjd, hjn⟩ := range_split f1
      have hgl : j + 2 < C.length := Nat.lt_of_le_of_lt (Nat.add_lt_of_lt_sub hjn) hv.2
      have hCg : C[j + 2]? = some C[j + 2] := List.getElem?_eq_getElem hgl
      have hCi : C[(((j + 2 : Nat) : Int)).natAbs]? = some C[j + 2] := by rw [Int.natAbs_natCast]; exact hCg
      have A5 := A.no F5
      have e6 : List.range (p.natAbs - 1) = (dn ++ [j]) ++ rs := by rw [f1]; simp
      have hkl : kvs.length < lim := Nat.lt_of_le_of_lt (keys_len ki.1 ki.2) hsm
      refine onO_ok m5 (onO_ok (m_kind A5) (c_kind_ok (d := d) A5 hCi (eqS_ok (brQ_ok (fun t1 => ?_) fun t1 => ?_))))
      · obtain ⟨ps, hps⟩ := and_str.mp t1
        rw [hps] at hCi hCg
        have hw := W.at hCg
        have hwa := hw.ge
        have hwb := hw.two
        have hwc := hw.three
        refine onO_ok m1 (pow_ok (by lia) (by lia) (sub_ok' ?_))
        rw [efull]
        refine onO_ok m2 (sSubI_ok d5 hkl fun H6 s6 => ?_)
        have F6 : Fr' NoS H H6 := F5.set1 s6 d5 rfl (.inr (Nat.le_refl _))
        have A6 := A.no F6
        refine onO_ok m5 (onO_ok (m_parts A6) (c_parts_ok (d := d) A6 hCi fun tp htp => over_tup htp ?_))
        refine forL_ok (OwC n C H H3.length tp j p ps) ?_ ?_ _ _ _
          ⟨[], ps, put ((j + 2 : Nat) : Int) (.int (2 ^ 2 ^ n - 1)) kvs, rfl, rfl, F6, m1, m2, m4, m5, rfl, s6.get r5 (by have := lt_of_get d3; lia), htp, s6.at_, ki.put hgl _, by rw [look_put, if_pos rfl, tI_full]; rfl, fun i h1 h2 => .inl (by rw [look_put, if_neg (by lia)]; exact hk i h1 (by lia))⟩ fun rest m' H' x => by obtain ⟨_, _, _, _, _, _, _, _, _, _, _, _, x, _⟩ := x; exact x
        · rintro v rest mm H7 K2 ⟨dp, rp, kv, g1, g2, F7, n1, n2, n4, n5, n6, r7, t7, d7, ki7, hg7, hk7⟩ kk2
          obtain ⟨x, rp, rfl, rfl, rfl⟩ := map_cons_inv g1
          have hxm : x ∈ ps := by rw [g2]; simp
          have hxb := hw.parts x hxm
          have hxv : Vd C x := ⟨by lia, by lia⟩
          have hkl7 : kv.length < lim := Nat.lt_of_le_of_lt (keys_len ki7.1 ki7.2) hsm
          refine onO_ok n2 (onO_ok n6 (sub_I d7 hg7 (gt_ok ?_)))
          have tail : ∀ H8 : Hp, H8 = H7 → ∀ z : Int, z = gT (2 ^ n) C x → binV .BitAnd (.int (tabI (2 ^ n) fun r => dp.all fun p => Vl (rowOf r) C p)) (.int z) H8 fun v93 H94 => onO (lk "known" mm) fun v95 => onO (lk "g" mm) fun v96 => sSub H94 v95 v96 v93 fun H97 => H97[tp]? = some (.tuple ((partsG (.and ps)).map V.int)) ∧ K2 (("part", .int x) :: mm) H97 := fun H8 e8 z ez => by
            subst e8; subst ez
            refine band_ok (onO_ok n2 (onO_ok n6 (sSubI_ok d7 hkl7 fun H9 s9 => kk2 _ _ ⟨dp ++ [x], rp, put ((j + 2 : Nat) : Int) (.int (Builtin.bitAnd (tabI (2 ^ n) fun r => dp.all fun p => Vl (rowOf r) C p) (gT (2 ^ n) C x))) kv, rfl, by rw [g2]; simp, F7.set1 s9 d7 rfl (.inr (Nat.le_refl _)), n1, n2, n4, n5, n6, s9.get r7 (by have := lt_of_get d3; lia), s9.get t7 (fun e => by rw [e, d7] at t7; cases t7), s9.at_, ki7.put hgl _, ?_, fun i h1 h2 => .inl (by rw [look_put, if_neg (by lia)]; exact (hk7 i h1 h2).resolve_right id)⟩)))
            rw [look_put, if_pos rfl]
            unfold gT
            rw [tI_and]
            congr 3
            funext r; simp
          refine brQ_ok (fun t2 => ?_) fun t2 => ?_
          · have t2 := of_decide_eq_true t2
            have ex : x = ((x.natAbs : Nat) : Int) := by (first | exact (Int.natAbs_of_nonneg (Int.le_of_lt (of_decide_eq_true (by assumption)))).symm | lia)
            refine onO_ok n2 (sub_I d7 (v := .int (gN (2 ^ n) C x.natAbs)) ?_ (tail H7 rfl _ ?_))
            · rw [ex]; exact (hk7 x.natAbs (by lia) (by lia)).resolve_right id
            · conv => rhs; rw [ex]
              exact (gT_nat (by lia)).symm
          · have t2 := of_decide_eq_false t2
            have ex : 0 - x = ((x.natAbs : Nat) : Int) := by (first | exact (Int.zero_sub _).trans (Int.ofNat_natAbs_of_nonpos (Int.not_lt.mp (of_decide_eq_false (by assumption)))).symm | lia)
            refine onO_ok n1 (pow_ok (by lia) (by lia) (sub_ok' (onO_ok n2 (sub_ok' (sub_I d7 (v := .int (gN (2 ^ n) C x.natAbs)) ?_ (sub_ok' (tail H7 rfl _ ?_)))))))
            · rw [ex]; exact (hk7 x.natAbs (by lia) (by lia)).resolve_right id
            · rw [efull, ← gT_nat (by lia)]
              have hvx : Vd C ((x.natAbs : Nat) : Int) := ⟨by rw [Int.natAbs_natCast]; lia, by rw [Int.natAbs_natCast]; lia⟩
              rw [gT_neg hvx]
              congr 1; lia
        · rintro mm H7 ⟨dp, rp, kv, g1, g2, F7, n1, n2, n4, n5, n6, r7, t7, d7, ki7, hg7, hk7⟩
          obtain rfl := map_nil_inv g1
          obtain rfl : ps = dp := by simpa using g2
          refine kk _ _ ⟨dn ++ [j], rs, kv, e6, rfl, F7, n1, n2, n4, n5, r7, d7, ki7, fun i h1 h2 => ?_⟩
          simp at h2
          have hjn2 := hw.ge
          by_cases z : i = j + 2
          · subst z
            rw [hg7]; congr 2
            unfold gN tabI; congr 1
            exact tb_congr _ fun r _ => (vl_and W hCg).symm
          · exact (hk7 i h1 (by lia)).resolve_right id
      · refine kk _ _ ⟨dn ++ [j], rs, kvs, e6, rfl, F5, m1, m2, m4, m5, r5, d5, ki, fun i h1 h2 => ?_⟩
        simp at h2
        by_cases z : i = j + 2
        · subst z
          refine hk _ h1 (.inr ?_)
          rcases gate_kind W (by lia) hgl with ⟨h, _⟩ | ⟨_, ps, e⟩
          · exact h
          · rw [hCg] at e
            rw [and_str.mpr ⟨ps, Option.some.inj e⟩] at t1; cases t1
        · exact hk i h1 (by lia)
    · rintro m H5 ⟨dn, rs, kvs, f1, f2, F5, m1, m2, m4, m5, r5, d5, ki, hk⟩
      obtain rfl := map_nil_inv f2
      have hdn : dn.length = p.natAbs - 1 := by have := congrArg List.length f1; simpa using this.symm
      have hlook := hk p.natAbs hv1 (.inl (by lia))
      refine onO_ok m4 (gt_ok (brQ_ok (fun t2 => ?_) fun t2 => ?_))
      · have t2 := of_decide_eq_true t2
        have ex : p = ((p.natAbs : Nat) : Int) := by (first | exact (Int.natAbs_of_nonneg (Int.le_of_lt (of_decide_eq_true (by assumption)))).symm | lia)
        refine onO_ok m2 (onO_ok m4 (sub_I d5 (v := .int (gN (2 ^ n) C p.natAbs)) (by rw [ex]; exact hlook) ?_))
        have := q H5 F5
        rw [ex, gT_nat hv1] at this; exact this
      · have t2 := of_decide_eq_false t2
        have ex : 0 - p = ((p.natAbs : Nat) : Int) := by (first | exact (Int.zero_sub _).trans (Int.ofNat_natAbs_of_nonpos (Int.not_lt.mp (of_decide_eq_false (by assumption)))).symm | lia)
        refine onO_ok m1 (pow_ok (by lia) (by lia) (sub_ok' (onO_ok m2 (onO_ok m4 (sub_ok' (sub_I d5 (v := .int (gN (2 ^ n) C p.natAbs)) (by rw [ex]; exact hlook) (sub_ok' ?_)))))))
        have := q H5 F5
        have hvx : Vd C ((p.natAbs : Nat) : Int) := ⟨by rw [Int.natAbs_natCast]; omega, by rw [Int.natAbs_natCast]; omega⟩
        rw [efull, ← gT_nat hv1, gT_neg hvx, show -((p.natAbs : Nat) : Int) = p by lia]; exact this
  · simp only [putAll, put, List.map_cons, List.map_nil, List.mem_singleton] at hk
    exact ⟨1, hk, by (first | exact Nat.lt_of_le_of_lt (Nat.le_add_left ..) (by assumption) | lia)⟩
  · have : i = 1 := by simp at h2; (first | exact Nat.eq_of_le_of_lt_succ (by assumption) (by assumption) | lia)
    subst this
    rw [gN_one W]; rfl
end
end Mine
end
section
open PySem PySem.W PyProof.Rows
set_option maxRecDepth 100000
set_option linter.unusedVariables false
set_option autoImplicit false
namespace Mine
theorem shown_small : ∀ x, x < 17 → ∀ y, y < 17 → (reprInts [((x : Nat) : Int), ((y : Nat) : Int), ((x : Nat) : Int)]).showable = true ∧ (reprInts [((x : Nat) : Int), ((y : Nat) : Int), ((x : Nat) : Int)]).shown.length ≤ lim := by decide +kernel
noncomputable def SomeAt (H : Hp) (C : Ck) (R : Nat) (ss : List V) : Prop := ∀ v ∈ ss, ∃ (t : Nat) (g : Int), v = .ref t ∧ H[t]? = some (.tuple [.int g, .int (gT R C g)]) ∧ Vd C g
section
variable {n b : Nat} {H H' : Hp} {C C' : Ck} {P : Params} {a : Addr} {l : List Int} {d : Nat} {Q : V → Hp → Prop}
theorem SomeAt.grow {S : Nat → Prop} {R : Nat} {ss : List V} (x : SomeAt H C R ss) (F : Fr' S H H') (e : C <+: C') : SomeAt H' C' R ss := fun v hv => by
  obtain ⟨t, g, h1, h2, h3⟩ := x v hv
  exact ⟨t, g, h1, by rw [gT_ext e h3]; exact F.get _ _ h2 (.inl rfl), h3.ext e⟩
theorem FeedAt.fr {S : Nat → Prop} {k : Nat} (x : FeedAt H k) (F : Fr' S H H') (h1 : ¬ S 1) (h2 : ¬ S 2) : FeedAt H' k := by obtain ⟨cells, a, b, c⟩ := x.ex; exact ⟨cells, F.get _ _ a (.inr h2), F.get _ _ b (.inr h1), c⟩
theorem repr_ok {i : Nat} {l : List Int} (hi : H[i]? = some (.list (l.map V.int))) (h1 : (reprInts l).showable = true) (h2 : (reprInts l).shown.length ≤ lim) (q : Q (.str (reprInts l).shown) H) : bltV "repr" [.ref i] H Q := by
  unfold bltV
  simp only [hi, onO, show ("repr" : String) ≠ "len" by decide, show ("repr" : String) ≠ "sorted" by decide, show ("repr" : String) ≠ "sum" by decide, if_false, if_true, seqOf, ints_map]
  exact ⟨h1, h2, q⟩
theorem law_is_right_ok {p : Int} (K : Ctr (fun _ => True) n b H C) (hv : Vd C p) (hs : C.length + 3 * Ft 4 + 200 < lim) (q : ∀ C' H', C <+: C' → C'.length ≤ C.length + 3 * Ft 4 → Ctr (fun _ => True) n b H' C' → Fr' (SB b) H H' → Q (.bool true) H') :
    callA (TT P a l) (d + 8) 278 [.ref (b + 1), .int p, .int (gT (2 ^ n) C p), .int ((2 ^ n : Nat) : Int)] H Q := by
  rw [rd_law_is_right_eq]
  unfold rd_law_is_right
  refine onO_ok (m_count K.B) (k_count_ok (d := d) K hv (by lia) fun C1 H1 eC1 l1 K1 F1 => onO_ok (m_count K1.B) (sub_ok' ?_))
  rw [Int.zero_sub]
  have hv1 := hv.ext eC1
  refine k_count_ok (d := d) K1 hv1.neg (by lia) fun C2 H2 eC2 l2 K2 F2 => onO_ok (m_count K2.B) ?_
  have hv2 := hv1.ext eC2
  refine k_count_ok (d := d) K2 hv2 (by lia) fun C3 H3 eC3 l3 K3 F3 => newO_ok fun H4 F4 l4 e4 => ?_
  have s1 : Sm n (fun ρ => Vl ρ C2 p) = Sm n (fun ρ => Vl ρ C p) := Sm_congr (fun ρ => Vl_ext (eC1.trans eC2) hv) n
  have s2 : Sm n (fun ρ => Vl ρ C1 (-p)) = 2 ^ n - Sm n (fun ρ => Vl ρ C p) := by
    have h1 := Sm_not n (fun ρ => Vl ρ C p)
    rw [Sm_congr (g := fun ρ => !Vl ρ C p) (fun ρ => by rw [Vl_neg hv1, Vl_ext eC1 hv]) n, ← h1, Nat.add_sub_cancel_left]
  have s3 := Sm_not n (fun ρ => Vl ρ C p)
  rw [s1, s2] at e4
  have eo : ones (tb (2 ^ n) fun r => Vl (rowOf r) C p) = Sm n (fun ρ => Vl ρ C p) := by rw [ones_tb, cnt_Sm n (fun ρ => Vl ρ C p)]
  generalize Sm n (fun ρ => Vl ρ C p) = s at *
  have h16 : 2 ^ n ≤ 16 := pow16 K.four
  obtain ⟨h1, h2⟩ := shown_small s (by lia) (2 ^ n - s) (Nat.lt_succ_of_le (Nat.le_trans (Nat.sub_le ..) h16))
  have hcall : ∀ {H : Hp} {Q : V → Hp → Prop}, (∀ H', Fr' NoS H H' → Q (.int (s : Int)) H') → callA (TT P a l) (d + 7) 257 [.int (gT (2 ^ n) C p)] H Q := fun {H Q} hq => by
    show callA (TT P a l) (d + 7) 257 [.int ((tb (2 ^ n) fun r => Vl (rowOf r) C p : Nat) : Int)] H Q
    exact law_ones_ok (d := d + 6) fun H' F => by rw [eo]; exact hq H' F
  refine repr_ok (l := [(s : Int), ((2 ^ n - s : Nat) : Int), (s : Int)]) e4 h1 h2 (hcall fun H5 F5 => hcall fun H6 F6 => sub_ok' (hcall fun H7 F7 => newO_ok fun H8 F8 l8 e8 => ?_))
  have er : (((2 ^ n : Nat) : Int) - (s : Int)) = ((2 ^ n - s : Nat) : Int) := (Int.natCast_sub (Nat.le.intro s3)).symm
  rw [er] at e8
  refine repr_ok (l := [(s : Int), ((2 ^ n - s : Nat) : Int), (s : Int)]) e8 h1 h2 (eqS_ok ?_)
  rw [beq_self_eq_true]
  have F48 : Fr' NoS H3 H8 := ((((F4.trans F5).trans F6).trans F7).trans F8)
  exact q C3 H8 ((eC1.trans eC2).trans eC3) (by lia) (K3.no F48) (((F1.trans F2).trans F3).trans F48.no)
theorem k_init_ok {il : Nat} {xs : List V} (A : CircAt H C) (W : WF n C) (h4 : n ≤ 4) (FA : FewAll C) (hi : H[il]? = some (.list xs)) (hx : xs.length = n) (q : ∀ H', Fr' NoS H H' → Ctr (fun _ => True) n H.length H' C → Q (.ref (H.length + 1)) H') :
    newI (callA (TT P a l) (d + 1)) 110 35 [.ref 4, .ref il] H Q := by
  unfold newI
  rw [rd_k_init_eq]
  unfold rd_k_init
  have hlim : lim = 1048576 := rfl
  have hlo := A.hi
  have hil := lt_of_get hi
  generalize hH1 : H ++ [O.attrs [], O.inst 110 H.length] = H1
  have F1 : Fr' NoS H H1 := hH1 ▸ Fr'.app _
  have l1 : H1.length = H.length + 2 := by rw [← hH1]; simp
  have a1 : H1[H.length]? = some (.attrs []) := by rw [← hH1]; simp
  have i1 : H1[H.length + 1]? = some (.inst 110 H.length) := by rw [← hH1]; simp
  refine sAttr_ok i1 a1 (by kernel_rfl) (by decide) rfl fun H2 s2 => ?_
  have F2 := F1.set1 s2 a1 rfl (.inr (Nat.le_refl _))
  have i2 := s2.get i1 (by lia)
  refine tup_ok (F2.get _ _ hi (.inr fun z => z)) (by lia) (newO_ok fun H3 F3 l3 e3 => ?_)
  have a3 := F3.get _ _ s2.at_ (.inr fun z => z)
  have i3 := F3.get _ _ i2 (.inl rfl)
  refine sAttr_ok i3 a3 (by kernel_rfl) (show 1 < 100 by decide) rfl fun H4 s4 => newDI_ok fun H5 F5 l5 e5 => ?_
  have F4 := (F2.trans F3).set1 s4 a3 rfl (.inr (Nat.le_refl _))
  have i5 := F5.get _ _ (s4.get i3 (by lia)) (.inl rfl)
  have a5 := F5.get _ _ s4.at_ (.inr fun z => z)
  refine sAttr_ok i5 a5 (by kernel_rfl) (show 2 < 100 by decide) rfl fun H6 s6 => newDI_ok fun H7 F7 l7 e7 => ?_
  have F6 := (F4.trans F5).set1 s6 a5 rfl (.inr (Nat.le_refl _))
  have i7 := F7.get _ _ (s6.get i5 (by lia)) (.inl rfl)
  have a7 := F7.get _ _ s6.at_ (.inr fun z => z)
  refine sAttr_ok i7 a7 (by kernel_rfl) (show 3 < 100 by decide) rfl fun H8 s8 => newDI_ok fun H9 F9 l9 e9 => ?_
  have F8 := (F6.trans F7).set1 s8 a7 rfl (.inr (Nat.le_refl _))
  have i9 := F9.get _ _ (s8.get i7 (by lia)) (.inl rfl)
  have a9 := F9.get _ _ s8.at_ (.inr fun z => z)
  refine sAttr_ok i9 a9 (by kernel_rfl) (show 4 < 100 by decide) rfl fun H10 s10 => ⟨rfl, ?_⟩
  have F10 := (F8.trans F9).set1 s10 a9 rfl (.inr (Nat.le_refl _))
  have L2 : H2.length = H.length + 2 := by rw [s2.len, l1]
  have L3 : H3.length = H.length + 3 := by rw [l3, L2]
  have L4 : H4.length = H.length + 3 := by rw [s4.len, L3]
  have L6 : H6.length = H.length + 4 := by rw [s6.len, l5, L4]
  have L8 : H8.length = H.length + 5 := by rw [s8.len, l7, L6]
  have t10 : H10[H.length + 2]? = some (.tuple xs) := by
    rw [L2] at e3
    exact s10.get (F9.get _ _ (s8.get (F7.get _ _ (s6.get (F5.get _ _ (s4.get e3 (by lia)) (.inl rfl)) (by lia)) (.inl rfl)) (by lia)) (.inl rfl)) (by lia)
  have k10 : H10[H.length + 3]? = some (.dictI []) := by
    rw [L4] at e5
    exact s10.get (F9.get _ _ (s8.get (F7.get _ _ (s6.get e5 (by lia)) (.inr fun z => z)) (by lia)) (.inr fun z => z)) (by lia)
  have p10 : H10[H.length + 4]? = some (.dictI []) := by
    rw [L6] at e7
    exact s10.get (F9.get _ _ (s8.get e7 (by lia)) (.inr fun z => z)) (by lia)
  have u10 : H10[H.length + 5]? = some (.dictI []) := by
    rw [L8] at e9
    exact s10.get e9 (by lia)
  have hB : H10[H.length]? = some (.attrs [("circuit", .ref 4), ("inputs", .ref (H.length + 2)), ("known", .ref (H.length + 3)), ("plans", .ref (H.length + 4)), ("supports", .ref (H.length + 5))]) := by
    rw [s10.at_, L2, L4, L6, L8]; rfl
  refine q H10 F10 ⟨A.no F10, W, h4, FA, ⟨hlo, s10.get i9 (by lia), hB⟩, ⟨[], u10, by (first | exact List.nodup_nil | simp), fun k v h => by cases h⟩, ⟨[], k10, by (first | exact List.nodup_nil | simp), fun k v h => by cases h⟩, ⟨[], p10, by (first | exact List.nodup_nil | simp), fun k v h => by cases h⟩, xs, t10, hx⟩
theorem c_init_ok (h3 : H.length = 3) (q : ∀ H', Fr' NoS H H' → CircAt H' [.pad, .tru] → Q (.ref 4) H') : newI (callA (TT P a l) (d + 1)) 220 128 [] H Q := by
  unfold newI
  rw [rd_c_init_eq]
  unfold rd_c_init
  rw [h3]
  generalize hH1 : H ++ [O.attrs [], O.inst 220 3] = H1
  have F1 : Fr' NoS H H1 := hH1 ▸ Fr'.app _
  have l1 : H1.length = 5 := by rw [← hH1]; simp [h3]
  have a1 : H1[3]? = some (.attrs []) := by rw [← hH1, ← h3]; simp
  have i1 : H1[4]? = some (.inst 220 3) := by rw [← hH1, show 4 = H.length + 1 by lia]; simp
  refine newO_ok fun H2 F2 l2 e2 => sAttr_ok (F2.get _ _ i1 (.inl rfl)) (F2.get _ _ a1 (.inr fun z => z)) (by kernel_rfl) (by decide) rfl fun H3 s3 => newO_ok fun H4 F4 l4 e4 => newO_ok fun H5 F5 l5 e5 => newO_ok fun H6 F6 l6 e6 => ?_
  rw [l1] at e2
  have L3 : H3.length = 6 := by rw [s3.len, l2, l1]
  have L4 : H4.length = 7 := by rw [l4, L3]
  have L5 : H5.length = 8 := by rw [l5, L4]
  have F12 := F1.trans F2
  have F3 := F12.set1 s3 (F2.get _ _ a1 (.inr fun z => z)) rfl (.inr (by lia))
  have F36 : Fr' NoS H3 H6 := (F4.trans F5).trans F6
  have i6 := F36.get _ _ (s3.get (F2.get _ _ i1 (.inl rfl)) (by decide)) (.inl rfl)
  have a6 := F36.get _ _ s3.at_ (.inr fun z => z)
  refine sAttr_ok i6 a6 (by kernel_rfl) (show 1 < 100 by decide) rfl fun H7 s7 => newDT_ok fun H8 F8 l8 e8 => ?_
  have i8 := F8.get _ _ (s7.get i6 (by decide)) (.inl rfl)
  have a8 := F8.get _ _ s7.at_ (.inr fun z => z)
  refine sAttr_ok i8 a8 (by kernel_rfl) (show 2 < 100 by decide) rfl fun H9 s9 => ⟨rfl, ?_⟩
  have L7 : H7.length = 9 := by rw [s7.len, l6, L5]
  rw [L3] at e4
  rw [L4] at e5
  rw [L5] at e6
  rw [L7] at e8
  have F7 := (F3.trans F36).set1 s7 a6 rfl (.inr (by lia))
  have F9 := (F7.trans F8).set1 s9 a8 rfl (.inr (by lia))
  have k9 : H9[5]? = some (.list [.str "", .str "true"]) := s9.get (F8.get _ _ (s7.get (F36.get _ _ (s3.get e2 (by decide)) (.inr fun z => z)) (by decide)) (.inr fun z => z)) (by decide)
  have t6 : H9[6]? = some (.tuple []) := s9.get (F8.get _ _ (s7.get ((F5.trans F6).get _ _ e4 (.inl rfl)) (by decide)) (.inl rfl)) (by decide)
  have t7 : H9[7]? = some (.tuple []) := s9.get (F8.get _ _ (s7.get (F6.get _ _ e5 (.inl rfl)) (by decide)) (.inl rfl)) (by decide)
  have p9 : H9[8]? = some (.list [.ref 6, .ref 7]) := by
    rw [L3, L4] at e6
    exact s9.get (F8.get _ _ (s7.get e6 (by decide)) (.inr fun z => z)) (by decide)
  have d9 : H9[9]? = some (.dictT []) := s9.get e8 (by decide)
  have hA : H9[3]? = some (.attrs [("kinds", .ref 5), ("parts_now", .ref 8), ("known", .ref 9)]) := by
    rw [s9.at_, l1, L5, L7]; rfl
  refine q H9 F9 ⟨s9.get i8 (by decide), hA, k9, ⟨[6, 7], p9, rfl, fun i t g h1 h2 => ?_⟩, ⟨[], d9, by simp, fun k v h => by cases h⟩, by decide⟩
  rcases i with _ | _ | i
  · cases h1; cases h2; exact t6
  · cases h1; cases h2; exact t7
  · cases h1
theorem law_drawn_ok {k sl : Nat} {ss : List V} (F : FeedAt H k) (hk : k + 1 ≤ 1000) (hsl : H[sl]? = some (.list ss)) (h2 : sl ≠ 2) (hne : 0 < ss.length) (hle : ss.length ≤ 100) (hS : SomeAt H C (2 ^ n) ss)
    (q : ∀ (t : Nat) (g : Int) H', FeedAt H' (k + 2) → Fr' SF H H' → H'[t]? = some (.tuple [.int g, .int (gT (2 ^ n) C g)]) → Vd C g → Q (.ref t) H') : callA (TT P a l) (d + 2) 264 [.ref 2, .ref sl, .int (2 ^ (2 ^ n) - 1)] H Q := by
  rw [rd_law_drawn_eq]
  unfold rd_law_drawn
  have hlim : lim = 1048576 := rfl
  refine len_ok (n := ss.length) hsl (by (first | rfl | simp [lenOf])) (by (first | exact Nat.lt_of_le_of_lt (by assumption) (by decide) | lia)) (law_next_ok (d := d) F (by (first | exact Nat.le_of_lt (by assumption) | lia)) hne (by (first | exact Nat.le_trans (by assumption) (by decide) | lia)) fun r hr H1 F1 G1 => ?_)
  have sl1 := G1.get _ _ hsl (.inr h2)
  obtain ⟨v, hv⟩ : ∃ v, ss[r]? = some v := ⟨ss[r], List.getElem?_eq_getElem hr⟩
  obtain ⟨t, g, rfl, ht, hg⟩ := hS v (List.mem_of_getElem? hv)
  have ht1 := G1.get _ _ ht (.inl rfl)
  refine sub_list sl1 hv (by lia) (bindN_ok ht1 rfl (onO_ok rfl (law_next_ok (w := 2) (d := d) F1 (by (first | assumption | lia)) (by decide) (by decide) fun r2 hr2 H2 F2 G2 => eq_ok (brQ_ok (fun t2 => ?_) fun t2 => ?_))))
  · refine onO_ok rfl (onO_ok rfl (newO_ok fun H3 F3 l3 e3 => q _ g H3 (F2.fr F3 (fun z => z) (fun z => z)) ((G1.trans G2).trans F3.no) e3 hg))
  · refine onO_ok rfl (sub_ok' (onO_ok rfl (onO_ok rfl (sub_ok' (newO_ok fun H3 F3 l3 e3 => ?_)))))
    rw [Int.zero_sub, gT_neg hg] at e3
    exact q _ (-g) H3 (F2.fr F3 (fun z => z) (fun z => z)) ((G1.trans G2).trans F3.no) e3 hg.neg
end
end Mine
end
section
open PySem PySem.W PyProof.Rows
set_option maxRecDepth 100000
set_option linter.unusedVariables false
set_option autoImplicit false
namespace Mine
theorem fewAll_small {n : Nat} {C : Ck} (W : WF n C) (h : C.length ≤ 24) : FewAll C := fun i hi => ⟨List.range C.length, by simpa using h, fun j hj => List.mem_range.mpr (hj.lt W hi)⟩
noncomputable def C0 (k : Nat) : Ck := .pad :: .tru :: List.replicate k .inp
theorem C0_len (k : Nat) : (C0 k).length = k + 2 := by simp [C0]
theorem C0_succ (k : Nat) : C0 (k + 1) = C0 k ++ [.inp] := by
  unfold C0; rw [List.replicate_succ']; rfl
theorem C0_wf (k : Nat) : WF k (C0 k) := by
  refine ⟨by rw [C0_len]; (first | exact Nat.le_refl _ | lia), rfl, rfl, fun i h1 h2 => ?_, fun i h1 h2 => by rw [C0_len] at h2; omega⟩
  obtain ⟨j, rfl⟩ : ∃ j, i = j + 2 := ⟨i - 2, by (first | exact (Nat.sub_add_cancel (by assumption)).symm | lia)⟩
  show (List.replicate k Gt.inp)[j]? = some .inp
  rw [List.getElem?_replicate, if_pos (by lia)]
section
variable {n b : Nat} {H H' : Hp} {C C' : Ck} {P : Params} {a : Addr} {l : List Int} {d : Nat} {Q : V → Hp → Prop}
/-- a counter stands while a younger one works -/
theorem Ctr.other {H1 H2 H3 : Hp} {b2 : Nat} {C1 C2 : Ck} (K : Ctr (fun _ => True) n b H1 C1) (F1 : Fr' NoS H1 H2) (hb : b2 = H1.length) (F2 : Fr' (SB b2) H2 H3) (e : C1 <+: C2) (K2 : Ctr (fun _ => True) n b2 H3 C2) : Ctr (fun _ => True) n b H3 C2 ∧ Fr' SC H1 H3 := by
  have F : Fr' SC H1 H3 := ⟨Nat.le_trans F1.len F2.len, fun j x h z => F2.get j x (F1.get j x h (.inr fun q => q)) (z.imp id fun hn hs => by
    have := lt_of_get h
    rcases hs with hs | hs
    · exact hn hs
    · lia)⟩
  exact ⟨K.grow (F.mono fun j => SCS.of_SC) K2.at_ K2.wf K2.few ((K.sup.sc F K.B.lo).ext K.wf e) e, F⟩
/-- the state between the laps -/
structure LapI (n : Nat) (k : Nat) (sl il : Nat) (C : Ck) (ss : List V) (m : Loc) (H : Hp) : Prop where
  at_ : CircAt H C
  wf : WF n C
  len : C.length ≤ 6 + 3 * k
  feed : FeedAt H (2 + 7 * k)
  some_ : SomeAt H C (2 ^ n) ss
  hsl : H[sl]? = some (.list ss)
  pos : 0 < ss.length
  le : ss.length ≤ 5 + k
  hil : H[il]? = some (.list ((List.range n).map fun k : Nat => V.int ((k + 2 : Nat) : Int)))
  lof : 10 ≤ sl ∧ 10 ≤ il ∧ sl ≠ il
  mf : lk "feed" m = some (.ref 2)
  ms : lk "some" m = some (.ref sl)
  mfull : lk "full" m = some (.int (2 ^ (2 ^ n) - 1))
  mc : lk "circuit" m = some (.ref 4)
  mi : lk "inputs" m = some (.ref il)
  mr : lk "rows" m = some (.int ((2 ^ n : Nat) : Int))
/-- a drawn pair -/
noncomputable def PairAt (H : Hp) (C : Ck) (R : Nat) (v : V) : Prop := ∃ (t : Nat) (g : Int), v = .ref t ∧ H[t]? = some (.tuple [.int g, .int (gT R C g)]) ∧ Vd C g
theorem PairAt.grow {S : Nat → Prop} {R : Nat} {v : V} (x : PairAt H C R v) (F : Fr' S H H') (e : C <+: C') : PairAt H' C' R v := by
  obtain ⟨t, g, h1, h2, h3⟩ := x
  exact ⟨t, g, h1, by rw [gT_ext e h3]; exact F.get _ _ h2 (.inl rfl), h3.ext e⟩
theorem law_end {kn : Unit} {sl il : Nat} {ss : List V} (hn : n ≤ 4) (m : Loc) (hA : CircAt H C) (W : WF n C) (hS : SomeAt H C (2 ^ n) ss) (hsl : H[sl]? = some (.list ss)) (hil : H[il]? = some (.list ((List.range n).map fun k : Nat => V.int ((k + 2 : Nat) : Int))))
    (ms : lk "some" m = some (.ref sl)) (mc : lk "circuit" m = some (.ref 4)) (mi : lk "inputs" m = some (.ref il)) (mr : lk "rows" m = some (.int ((2 ^ n : Nat) : Int))) (q : ∀ H', Q (.bool true) H') :
    onO (lk "some" m) fun v193 =>
overV false H v193 fun xs194 ok195 =>
forL (fun v196 m197 H198 k199 =>
unp H198 v196 2 fun us202 =>
cas1 us202 fun u203 us204 =>
cas1 us204 fun u205 us206 =>
cas0 us206 (onO (lk "circuit" m197) fun v207 =>
onO (lk "inputs" m197) fun v208 =>
onO (lk "rows" m197) fun v209 =>
callA (TT P a l) (d + 2) 271 [v207, v208, u203, v209] H198 fun v210 H211 =>
cmpV .NotEq v210 u205 H211 fun c212 =>
brQ c212 (fun kn213 : Loc → Hp → Prop =>
Q (.bool false) H211) (fun kn213 : Loc → Hp → Prop =>
kn213 (("table", u205) :: (("gate", u203) :: m197)) H211) fun m214 H215 =>
k199 m214 H215)) ok195 xs194 m H fun m200 H201 =>
Q (.bool true) H201 := by
  refine onO_ok ms (over_list hsl ?_)
  refine forL_ok (fun rest m H' => Fr' NoS H H' ∧ (∀ v ∈ rest, PairAt H C (2 ^ n) v) ∧ lk "circuit" m = some (.ref 4) ∧ lk "inputs" m = some (.ref il) ∧ lk "rows" m = some (.int ((2 ^ n : Nat) : Int))) ?_ (fun m H' _ => q H') _ _ _ ⟨.refl, hS, mc, mi, mr⟩ fun rest m' H' x => x.1.get _ _ hsl (.inr fun z => z)
  rintro v rest m H1 k ⟨F1, hv, mc, mi, mr⟩ kk
  obtain ⟨t, g, rfl, ht, hg⟩ := hv v (List.mem_cons_self ..)
  refine unp2_tup (F1.get _ _ ht (.inl rfl)) (onO_ok mc (onO_ok mi (onO_ok mr (law_own_table_ok (d := d) (hA.no F1) W hn hg (F1.get _ _ hil (.inr fun z => z)) fun H2 F2 => ne_ok (brQ_ok (fun h => ?_) fun _ => kk _ _ ⟨F1.trans F2, fun v hv' => hv v (List.mem_cons_of_mem _ hv'), mc, mi, mr⟩)))))
  rw [bne_self_eq_false] at h; cases h

inductive AsI (n b sl il : Nat) (C : Ck) (H : Hp) (items ss : List V) (rest : List V) (m : Loc) (H' : Hp) : Prop
  | mk (C1 : Ck) (dn : Nat) (h0 : items.length = dn + rest.length) (h1 : C <+: C1) (h2 : C1.length ≤ 24 + dn * 23040) (h3 : Ctr (fun _ => True) n b H' C1) (h4 : Fr' (SB b) H H') (h5 : (∀ v ∈ rest, PairAt H' C1 (2 ^ n) v)) (h6 : SomeAt H' C1 (2 ^ n) ss) (h7 : lk "some" m = some (.ref sl)) (h8 : lk "circuit" m = some (.ref 4)) (h9 : lk "inputs" m = some (.ref il)) (h10 : lk "rows" m = some (.int ((2 ^ n : Nat) : Int))) (h11 : lk "counter" m = some (.ref (b + 1))) : AsI n b sl il C H items ss rest m H'
theorem law_asks {sl il : Nat} {ss items : List V} {lst : Nat} {K : Loc → Hp → Prop} (hn : n ≤ 4) (m : Loc) (hK : Ctr (fun _ => True) n b H C) (hb : b < H.length) (hlen : C.length ≤ 24) (hlb : sl < b ∧ il < b ∧ 10 ≤ sl ∧ 10 ≤ il) (hS : SomeAt H C (2 ^ n) ss) (hsl : H[sl]? = some (.list ss)) (hil : H[il]? = some (.list ((List.range n).map fun k : Nat => V.int ((k + 2 : Nat) : Int))))
    (hl : H[lst]? = some (.list items)) (hlst : b + 5 < lst) (hi3 : items.length ≤ 3) (hP : ∀ v ∈ items, PairAt H C (2 ^ n) v) (ms : lk "some" m = some (.ref sl)) (mc : lk "circuit" m = some (.ref 4)) (mi : lk "inputs" m = some (.ref il)) (mr : lk "rows" m = some (.int ((2 ^ n : Nat) : Int))) (mk : lk "counter" m = some (.ref (b + 1)))
    (q : ∀ m' H' C', CircAt H' C' → WF n C' → SomeAt H' C' (2 ^ n) ss → H'[sl]? = some (.list ss) → H'[il]? = some (.list ((List.range n).map fun k : Nat => V.int ((k + 2 : Nat) : Int))) → lk "some" m' = some (.ref sl) → lk "circuit" m' = some (.ref 4) → lk "inputs" m' = some (.ref il) → lk "rows" m' = some (.int ((2 ^ n : Nat) : Int)) → K m' H') :
    overV false H (.ref lst) fun xs159 ok160 =>
forL (fun v161 m162 H163 k164 =>
unp H163 v161 2 fun us167 =>
cas1 us167 fun u168 us169 =>
cas1 us169 fun u170 us171 =>
cas0 us171 (onO (lk "counter" m162) fun v172 =>
onO (lk "rows" m162) fun v173 =>
callA (TT P a l) (d + 8) 278 [v172, u168, u170, v173] H163 fun v174 H175 =>
onB v174 fun c176 =>
brQ (!c176) (fun kn177 : Loc → Hp → Prop =>
Q (.bool false) H175) (fun kn177 : Loc → Hp → Prop =>
kn177 (("table", u170) :: (("gate", u168) :: m162)) H175) fun m178 H179 =>
onO (lk "circuit" m178) fun v180 =>
onO (lk "inputs" m178) fun v181 =>
newI (callA (TT P a l) (d + 8)) 110 35 [v180, v181] H179 fun v182 H183 =>
onO (lk "gate" m178) fun v184 =>
onO (lk "table" m178) fun v185 =>
onO (lk "rows" m178) fun v186 =>
callA (TT P a l) (d + 8) 278 [v182, v184, v185, v186] H183 fun v187 H188 =>
onB v187 fun c189 =>
brQ (!c189) (fun kn190 : Loc → Hp → Prop =>
Q (.bool false) H188) (fun kn190 : Loc → Hp → Prop =>
kn190 m178 H188) fun m191 H192 =>
k164 m191 H192)) ok160 xs159 m H K := by
  have hF4 : Ft 4 = 3840 := by decide
  have hlim : lim = 1048576 := rfl
  refine over_list hl ?_
  refine forL_ok (AsI n b sl il C H items ss) ?_ ?_ _ _ _
    ⟨C, 0, by simp, List.prefix_refl _, by (first | assumption | lia), hK, .refl, hP, hS, ms, mc, mi, mr, mk⟩ fun rest m' H' x => by obtain ⟨_, _, _, _, _, _, F, _⟩ := x; exact F.get _ _ hl (.inr (by (first | exact nSB hK.B.lo (by assumption) | (have := hK.B.lo; unfold SB SC; lia))))
  · rintro v rest m H1 k ⟨C1, dn, e1, eC, lC, K1, F1, hv, S1, ms, mc, mi, mr, mk⟩ kk
    obtain ⟨t, g, rfl, ht, hg⟩ := hv v (List.mem_cons_self ..)
    have hdn : dn ≤ 2 := by simp at e1; lia
    have hlo := hK.B.lo
    have hilB : ∀ {H' : Hp}, Fr' (SB b) H H' → H'[il]? = some (.list ((List.range n).map fun k : Nat => V.int ((k + 2 : Nat) : Int))) := fun F => F.get _ _ hil (.inr (by unfold SB SC; first | decide | lia))
    refine unp2_tup ht (onO_ok mk (onO_ok mr (law_is_right_ok (d := d) K1 hg (by rw [hF4]; lia) fun C2 H2 eC2 lC2 K2 F2 => onB_ok (brQ_ok nofun fun _ => ?_))))
    refine onO_ok mc (onO_ok mi (k_init_ok (d := d + 7) (n := n) K2.at_ K2.wf hn K2.few (hilB (F1.trans F2)) (by simp) fun H3 F3 K3 => onO_ok rfl (onO_ok rfl (onO_ok mr ?_))))
    have hg2 := hg.ext eC2
    rw [hF4] at lC2
    rw [← gT_ext eC2 hg]
    refine law_is_right_ok (d := d) K3 hg2 (by rw [hF4]; lia) fun C4 H4 eC4 lC4 K4 F4 => onB_ok (brQ_ok nofun fun _ => ?_)
    obtain ⟨K5, F24⟩ := K2.other F3 rfl F4 eC4 K4
    have F14 : Fr' (SB b) H1 H4 := F2.trans (F24.mono fun j => .inl)
    refine kk _ _ ⟨C4, dn + 1, by simp at e1; lia, (eC.trans eC2).trans eC4, by rw [hF4] at lC4; lia, K5, F1.trans F14, fun v hv' => (hv v (List.mem_cons_of_mem _ hv')).grow F14 (eC2.trans eC4), S1.grow F14 (eC2.trans eC4), ms, mc, mi, mr, mk⟩
  · rintro m H1 ⟨C1, dn, e1, eC, lC, K1, F1, hv, S1, ms, mc, mi, mr, mk⟩
    have hlo := hK.B.lo
    exact q m H1 C1 K1.at_ K1.wf S1 (F1.get _ _ hsl (.inr (by unfold SB SC; first | decide | lia))) (F1.get _ _ hil (.inr (by unfold SB SC; first | decide | lia))) ms mc mi mr
end
end Mine
end
section
open PySem PySem.W PyProof.Rows
set_option maxRecDepth 100000
set_option linter.unusedVariables false
set_option autoImplicit false
namespace Mine
section
variable {n b : Nat} {H H' : Hp} {C C' : Ck} {P : Params} {a : Addr} {l : List Int} {d : Nat} {Q : V → Hp → Prop}
theorem law_lap {k sl il : Nat} {ss : List V} {lap : V} {m82 : Loc} {k84 : Loc → Hp → Prop} (hn : n ≤ 4) (hk : k ≤ 4) (X : LapI n k sl il C ss m82 H)
    (q : ∀ C' ss' m' H', LapI n (k + 1) sl il C' ss' m' H' → (∀ (j : Nat) (u v : Int), H[j]? = some (O.range u v) → H'[j]? = some (O.range u v)) → k84 m' H') :
    onO (lk "feed" m82) fun v87 =>
callA (TT P a l) (d + 6) 231 [v87, (.int 6)] H fun v88 H89 =>
typV "range" [(.int 3)] H89 fun v90 H91 =>
overV false H91 v90 fun xs92 ok93 => xs92.length < lim ∧
cmpL (fun v94 H95 Q96 =>
onO (lk "feed" (freeOf law_sc2 (("way", v88) :: (("lap", lap) :: m82)))) fun v101 =>
onO (lk "some" (freeOf law_sc2 (("way", v88) :: (("lap", lap) :: m82)))) fun v102 =>
onO (lk "full" (freeOf law_sc2 (("way", v88) :: (("lap", lap) :: m82)))) fun v103 =>
callA (TT P a l) (d + 6) 264 [v101, v102, v103] H95 fun v104 H105 =>
Q96 (some v104) H105) ok93 xs92 [] H91 fun ys97 H98 =>
newO H98 (.list ys97) fun v99 H100 =>
unp H100 v99 3 fun us106 =>
cas1 us106 fun u107 us108 =>
unp H100 u107 2 fun us109 =>
cas1 us109 fun u110 us111 =>
cas1 us111 fun u112 us113 =>
cas0 us113 (cas1 us108 fun u114 us115 =>
unp H100 u114 2 fun us116 =>
cas1 us116 fun u117 us118 =>
cas1 us118 fun u119 us120 =>
cas0 us120 (cas1 us115 fun u121 us122 =>
unp H100 u121 2 fun us123 =>
cas1 us123 fun u124 us125 =>
cas1 us125 fun u126 us127 =>
cas0 us127 (cas0 us122 (onO (lk "some" m82) fun v128 =>
onO (methOf (TT P a l) H100 v128 "append") fun mt129 =>
onO (lk "circuit" m82) fun v130 =>
callA (TT P a l) (d + 6) 243 [v130, v88, u110, u117, u124] H100 fun v131 H132 =>
onO (lk "full" m82) fun v133 =>
callA (TT P a l) (d + 6) 250 [v88, u112, u119, u126, v133] H132 fun v134 H135 =>
newO H135 (.tuple [v131, v134]) fun v136 H137 =>
methV (callA (TT P a l) (d + 6)) true mt129 v128 [v136] H137 fun v138 H139 =>
drp v138 (k84 (("u", u126) :: (("c", u124) :: (("t", u119) :: (("b", u117) :: (("s", u112) :: (("a", u110) :: (("way", v88) :: (("lap", lap) :: m82)))))))) H139))))) := by
  have hlim : lim = 1048576 := rfl
  obtain ⟨A, W, len, feed, some_, hsl, pos, le, hil, lof, mf, ms, mfull, mc, mi, mr⟩ := X
  refine onO_ok mf (law_next_ok (w := 6) (d := d + 5) feed (by lia) (by decide) (by decide) fun w hw H1 fd1 F1 => rng_ok (smallI_of (by decide) (by decide)) (newO_ok fun H2 F2 l2 e2 => over_rng e2 ⟨by decide, ?_⟩))
  have F02 : Fr' SF H H2 := F1.trans F2.no
  have sf2 : ∀ j, 10 ≤ j → ¬ SF j := fun j hj => by unfold SF; first | decide | lia
  -- three draws
  refine cmpL_ok (fun rest acc H' => acc.length + rest.length = 3 ∧ FeedAt H' (2 + 7 * k + 1 + 2 * acc.length) ∧ Fr' SF H2 H' ∧ ∀ v ∈ acc, PairAt H' C (2 ^ n) v) ?_ ?_ _ _ _ ⟨by decide, fd1.fr F2 (fun z => z) (fun z => z), .refl, by simp⟩ fun rest acc H' x => x.2.2.1.get _ _ e2 (.inl rfl)
  · rintro v rest acc H3 kq ⟨f1, f2, f3, f4⟩ kk
    have F03 : Fr' SF H H3 := F02.trans f3
    have hacc : acc.length ≤ 2 := by simp at f1; lia
    refine onO_ok (by rw [law_sc2_feed]; exact mf) (onO_ok (by rw [law_sc2_some]; exact ms) (onO_ok (by rw [law_sc2_full]; exact mfull) (law_drawn_ok (n := n) (C := C) (d := d + 4) f2 (by lia) (F03.get _ _ hsl (.inr (sf2 _ lof.1))) (by lia) pos (by lia) (some_.grow F03 (List.prefix_refl _)) fun t g H4 g1 g2 g3 g4 => kk _ _ ⟨by simp at f1 ⊢; lia, ?_, f3.trans g2, fun v hv => ?_⟩)))
    · rw [show 2 + 7 * k + 1 + 2 * (acc ++ [V.ref t]).length = 2 + 7 * k + 1 + 2 * acc.length + 2 by simp; (first | rfl | lia)]; exact g1
    · rcases List.mem_append.mp hv with h | h
      · exact (f4 v h).grow g2 (List.prefix_refl _)
      · rw [List.mem_singleton.mp h]; exact ⟨t, g, rfl, g3, g4⟩
  · rintro acc H3 ⟨f1, f2, f3, f4⟩
    have f1 : acc.length = 3 := by (first | exact f1 | simpa using f1)
    obtain ⟨p1, p2, p3, rfl⟩ := len3 f1
    refine newO_ok fun H4 F4 l4 e4 => unp_list e4 rfl ?_
    have up : ∀ {v}, v ∈ [p1, p2, p3] → PairAt H4 C (2 ^ n) v := fun hv => (f4 _ hv).grow F4 (List.prefix_refl _)
    obtain ⟨t1, x, rfl, h1, hx⟩ := up (v := p1) (by (first | exact List.mem_cons_self .. | simp))
    obtain ⟨t2, y, rfl, h2, hy⟩ := up (v := p2) (by (first | exact List.mem_cons_of_mem _ (List.mem_cons_self ..) | simp))
    obtain ⟨t3, z, rfl, h3, hz⟩ := up (v := p3) (by simp)
    have F04 : Fr' SF H H4 := (F02.trans f3).trans F4.no
    have A4 : CircAt H4 C := A.fr F04 (by unfold SF; first | decide | lia) (by unfold SF; first | decide | lia) (by unfold SF; first | decide | lia) (by unfold SF; first | decide | lia)
    have sl4 := F04.get _ _ hsl (.inr (sf2 _ lof.1))
    have hfeed : FeedAt H4 (2 + 7 * (k + 1)) := by
      have := f2.fr F4 (fun z => z) (fun z => z)
      rw [show 2 + 7 * (k + 1) = 2 + 7 * k + 1 + 2 * [V.ref t1, V.ref t2, V.ref t3].length by simp; (first | rfl | lia)]; exact this
    show unp H4 (.ref t1) 2 _
    refine unp2_tup h1 ?_
    show unp H4 (.ref t2) 2 _
    refine unp2_tup h2 ?_
    show unp H4 (.ref t3) 2 _
    refine unp2_tup h3 ?_
    refine onO_ok ms (onO_ok (mt_app sl4) (onO_ok mc (law_made_ok (w := w) (d := d) A4 W hx hy hz (by lia) fun r C' H5 M => onO_ok mfull (law_table_ok (w := w) (R := 2 ^ n) (f := fun r => Vl (rowOf r) C x) (g := fun r => Vl (rowOf r) C y) (h := fun r => Vl (rowOf r) C z) (d := d + 5) (newO_ok fun H6 F6 l6 e6 => ?_)))))
    have hM := M.len
    have sc10 : ∀ j, 10 ≤ j → ¬ SC j := fun j hj => by (first | exact nSC (by assumption) | (unfold SC; first | decide | lia))
    have sl6 := F6.get _ _ (M.fr.get _ _ sl4 (.inr (sc10 _ lof.1))) (.inr fun z => z)
    refine app_ok sl6 (by lia) fun H7 s7 => drp_none (q C' (ss ++ [.ref H5.length]) _ H7 ?_ fun j u v hj => ?_)
    · have F47 : Fr' SC H4 H6 := M.fr.trans F6.no
      have F67 : Fr' (fun j => j = sl) H6 H7 := Fr'.refl.set1 s7 sl6 rfl (.inl rfl)
      have eT : tabI (2 ^ n) (fun r => wayF w (Vl (rowOf r) C x) (Vl (rowOf r) C y) (Vl (rowOf r) C z)) = gT (2 ^ n) C' r := by
        unfold gT tabI; rw [tb_congr _ fun i _ => (M.val (rowOf i))]
      rw [eT] at e6
      refine ⟨(M.at_.no F6).fr F67 (by lia) (by lia) (by lia) (by lia), M.wf, by lia, (hfeed.fr F47 (by unfold SC; first | decide | lia) (by unfold SC; first | decide | lia)).fr F67 (by lia) (by lia), fun v hv => ?_, s7.at_, by simp, by simp; (first | exact Nat.lt_succ_of_le (by assumption) | lia), ?_, lof, mf, ms, mfull, mc, mi, mr⟩
      · rcases List.mem_append.mp hv with hv | hv
        · exact ((some_.grow F04 (List.prefix_refl _)).grow F47 M.pre).grow F67 (List.prefix_refl _) v hv
        · rw [List.mem_singleton.mp hv]
          exact ⟨H5.length, r, rfl, F67.get _ _ e6 (.inl rfl), M.vd⟩
      · exact F67.get _ _ (F47.get _ _ (F04.get _ _ hil (.inr (sf2 _ lof.2.1))) (.inr (sc10 _ lof.2.1))) (.inr (by lia))
    · have h5 := (M.fr.trans F6.no).get _ _ (F04.get _ _ hj (.inl rfl)) (.inl rfl)
      exact s7.get h5 (fun e => by rw [e, sl6] at h5; cases h5)
end
end Mine
end
section
open PySem PySem.W PyProof.Rows
set_option maxRecDepth 100000
set_option linter.unusedVariables false
set_option autoImplicit false
namespace Mine
set_option maxHeartbeats 2000000 in
theorem law_gen (P : Params) (a : Addr) (l : List Int) (hl : l.length ≤ 63) (Q : V → Hp → Prop) (hq : ∀ H', Q (.bool true) H') : callA (TT P a l) (11 + 1) 283 [.st (.ref a)] [] Q := by
  have hlim : lim = 1048576 := rfl
  rw [rd_law_eq]
  unfold rd_law
  refine onO_ok (a := l) (by unfold roOf TT; simp) ⟨by (first | exact Nat.lt_of_le_of_lt (by assumption) (by decide) | lia), newO_ok fun H1 F1 l1 e1 => lst_ok e1 (by simp; lia) (newO_ok fun H2 F2 l2 e2 => newO_ok fun H3 F3 l3 e3 => ?_)⟩
  have L1 : H1.length = 1 := l1
  have L2 : H2.length = 2 := by rw [l2, L1]
  have L3 : H3.length = 3 := by rw [l3, L2]
  rw [L1] at e2 e3
  rw [L2] at e3
  rw [L2]
  have hfeed3 : FeedAt H3 0 := ⟨l.take 48, e3, by rw [F3.get _ _ e2 (.inr fun z => z), List.map_take]; rfl, by simp; lia⟩
  refine c_init_ok (d := 10) L3 fun H4 F4 A4 => newO_ok fun H5 F5 l5 e5 => newO_ok fun H6 F6 l6 e6 => unp2_tup e6 ?_
  have A6 := (A4.no F5).no F6
  have F36 : Fr' NoS H3 H6 := (F4.trans F5).trans F6
  refine law_next_ok (w := 4) (d := 10) (hfeed3.fr F36 (fun z => z) (fun z => z)) (by (first | exact Nat.zero_le _ | lia)) (by decide) (by decide) fun r0 hr0 H7 fd7 F7 => add_ok ?_
  have A7 : CircAt H7 (C0 0) := A6.fr F7 (by unfold SF; first | decide | lia) (by unfold SF; first | decide | lia) (by unfold SF; first | decide | lia) (by unfold SF; first | decide | lia)
  obtain ⟨n, hn⟩ : ∃ n, n = 1 + r0 := ⟨_, rfl⟩
  have en : (1 : Int) + (r0 : Int) = (n : Int) := by lia
  rw [en]
  have hn1 : 1 ≤ n := by lia
  have hn4 : n ≤ 4 := by lia
  clear hn en hr0
  refine rng_ok (smallI_of (by (first | exact Int.natCast_nonneg _ | lia)) (by lia)) (newO_ok fun H8 F8 l8 e8 => over_rng e8 ?_)
  rw [rng_items]
  have L7 : 10 ≤ H7.length := A7.hi
  refine ⟨by simp; (first | exact Nat.lt_of_le_of_lt (by assumption) (by decide) | lia), ?_⟩
  refine cmpL_ok (fun rest acc H' => ∃ dn rs : List Nat, List.range n = dn ++ rs ∧ rest = rs.map (fun (i : Nat) => V.int (i : Int)) ∧ acc = dn.map (fun k : Nat => V.int ((k + 2 : Nat) : Int)) ∧ CircAt H' (C0 dn.length) ∧ Fr' SC H8 H') ?_ ?_ _ _ _ ⟨[], List.range n, rfl, rfl, rfl, A7.no F8, .refl⟩
    fun rest acc H' x => by obtain ⟨_, _, _, _, _, _, x⟩ := x; exact x.get _ _ e8 (.inl rfl)
  · rintro v rest acc H9 kq ⟨dn, rs, f1, f2, rfl, A9, F9⟩ kk
    obtain ⟨k, rs, rfl, rfl, rfl⟩ := map_cons_inv f2
    obtain ⟨hk, hkn⟩ := range_split f1
    refine onO_ok (by rw [law_sc0_circuit]; rfl) (onO_ok (m_new_input A9) (c_new_input_ok (d := 9) A9 (by rw [C0_len]; lia) fun H10 F10 A10 => kk _ _ ⟨dn ++ [k], rs, by rw [f1]; simp, rfl, ?_, ?_, F9.trans F10⟩))
    · rw [C0_len, ← hk]; simp
    · rw [List.length_append, List.length_singleton, C0_succ]; exact A10
  rintro acc H9 ⟨dn, rs, f1, f2, rfl, A9, F9⟩
  obtain rfl := map_nil_inv f2
  have f1 : List.range n = dn := by simpa using f1
  subst f1
  rw [List.length_range] at A9
  have W := C0_wf n
  have fd9 : FeedAt H9 1 := (fd7.fr F8 (fun z => z) (fun z => z)).fr F9 (by unfold SC; first | decide | lia) (by unfold SC; first | decide | lia)
  refine newO_ok fun H10 F10 l10 e10 => len_ok (n := n) e10 (by simp [lenOf]) (by (first | exact Nat.lt_of_le_of_lt (by assumption) (by decide) | lia)) (pow_ok (by (first | exact Int.natCast_nonneg _ | lia)) (by lia) ?_)
  have ep : (2 : Int) ^ ((n : Int)).toNat = ((2 ^ n : Nat) : Int) := by rw [Int.toNat_natCast]; simp
  rw [ep]
  have hR : 2 ^ n ≤ 16 := pow16 hn4
  have hR0 : 0 < 2 ^ n := Nat.two_pow_pos n
  refine pow_ok (by (first | exact Int.natCast_nonneg _ | lia)) (by lia) (sub_ok' ?_)
  rw [Int.toNat_natCast]
  refine newO_ok fun H11 F11 l11 e11 => newO_ok fun H12 F12 l12 e12 => len_ok (n := n) (F12.get _ _ (F11.get _ _ e10 (.inr fun z => z)) (.inr fun z => z)) (by simp [lenOf]) (by (first | exact Nat.lt_of_le_of_lt (by assumption) (by decide) | lia)) (rng_ok (smallI_of (by (first | exact Int.natCast_nonneg _ | lia)) (by lia)) (newO_ok fun H13 F13 l13 e13 => over_rng e13 ?_))
  rw [rng_items]
  refine ⟨by simp; (first | exact Nat.lt_of_le_of_lt (by assumption) (by decide) | lia), ?_⟩
  have F913 : Fr' NoS H9 H13 := ((F10.trans F11).trans F12).trans F13
  have A13 := A9.no F913
  have il13 : H13[H9.length]? = some (.list ((List.range n).map fun k : Nat => V.int ((k + 2 : Nat) : Int))) := ((F11.trans F12).trans F13).get _ _ e10 (.inr fun z => z)
  have L9 : 10 ≤ H9.length := A9.hi
  refine cmpL_ok (fun rest acc H' => ∃ dn rs : List Nat, List.range n = dn ++ rs ∧ rest = rs.map (fun (i : Nat) => V.int (i : Int)) ∧ Fr' NoS H13 H' ∧ acc.length = dn.length ∧ SomeAt H' (C0 n) (2 ^ n) acc) ?_ ?_ _ _ _ ⟨[], List.range n, rfl, rfl, .refl, rfl, fun v hv => by cases hv⟩
    fun rest acc H' x => by obtain ⟨_, _, _, _, x, _⟩ := x; exact x.get _ _ e13 (.inl rfl)
  · rintro v rest acc H14 kq ⟨dn, rs, f1, f2, F14, f3, S14⟩ kk
    obtain ⟨k, rs, rfl, rfl, rfl⟩ := map_cons_inv f2
    obtain ⟨hk, hkn⟩ := range_split f1
    refine onO_ok (by rw [law_sc1_inputs]; rfl) (sub_list (k := k) (F14.get _ _ il13 (.inr fun z => z)) (v := .int ((k + 2 : Nat) : Int)) (by rw [List.getElem?_map, List.getElem?_range hkn]; rfl) (by lia) (onO_ok (by rw [law_sc1_rows]; rfl) (law_input_table_ok (R := 2 ^ n) (d := 10) (by lia) hR fun H15 F15 => newO_ok fun H16 F16 l16 e16 => kk _ _ ⟨dn ++ [k], rs, by rw [f1]; simp, rfl, (F14.trans F15).trans F16, by simp [f3], fun v hv => ?_⟩)))
    rcases List.mem_append.mp hv with hv | hv
    · exact S14.grow (F15.trans F16) (List.prefix_refl _) v hv
    · rw [List.mem_singleton.mp hv]
      refine ⟨H15.length, ((k + 2 : Nat) : Int), rfl, ?_, ⟨by show 1 ≤ k + 2; (first | exact Nat.succ_pos _ | lia), by show k + 2 < (C0 n).length; rw [C0_len]; (first | exact Nat.add_lt_add_right (by assumption) _ | lia)⟩⟩
      rw [gT_nat (by (first | exact Nat.succ_pos _ | lia)), gN_inp (W.inp (k + 2) (by (first | exact Nat.le_add_left _ _ | lia)) (by (first | exact Nat.add_lt_add_right (by assumption) _ | lia)))]; exact e16
  rintro acc H14 ⟨dn, rs, f1, f2, F14, f3, S14⟩
  obtain rfl := map_nil_inv f2
  have hdn : dn.length = n := by have := congrArg List.length f1; simpa using this.symm
  have F1114 : Fr' NoS H11 H14 := (F12.trans F13).trans F14
  have e12' : H14[H11.length]? = some (.list [.ref H10.length]) := (F13.trans F14).get _ _ e12 (.inr fun z => z)
  refine newO_ok fun H15 F15 l15 e15 => cat_ok (F15.get _ _ e12' (.inr fun z => z)) e15 (by simp; lia) (newO_ok fun H16 F16 l16 e16 => ?_)
  have F916 : Fr' NoS H9 H16 := ((F913.trans F14).trans F15).trans F16
  have fd16 : FeedAt H16 1 := fd9.fr F916 (fun z => z) (fun z => z)
  refine law_next_ok (w := 4) (d := 10) fd16 (by (first | exact Nat.succ_pos _ | lia)) (by decide) (by decide) fun r1 hr1 H17 fd17 F17 => add_ok ?_
  obtain ⟨lp, hlp⟩ : ∃ lp, lp = 2 + r1 := ⟨_, rfl⟩
  have en : (2 : Int) + (r1 : Int) = (lp : Int) := by lia
  rw [en]
  have hlp5 : lp ≤ 5 := by lia
  clear hlp en hr1
  refine rng_ok (smallI_of (by (first | exact Int.natCast_nonneg _ | lia)) (by lia)) (newO_ok fun H18 F18 l18 e18 => over_rng e18 ?_)
  rw [rng_items]
  have F1618 : Fr' SF H16 H18 := F17.trans F18.no
  have hL15 : H9.length ≤ H15.length := ((F913.trans F14).trans F15).len
  have hL9 : H9.length < H15.length := by have := F11.len; have := F1114.len; have := F15.len; lia
  have ss0 : SomeAt H18 (C0 n) (2 ^ n) ([.ref H10.length] ++ acc) := fun v hv => by
    rcases List.mem_append.mp hv with hv | hv
    · rw [List.mem_singleton.mp hv]
      refine ⟨H10.length, 1, rfl, ?_, ⟨by decide, by show 1 < (C0 n).length; rw [C0_len]; (first | exact Nat.le_add_left _ _ | lia)⟩⟩
      have := F1618.get _ _ (F16.get _ _ (F15.get _ _ (F1114.get _ _ e11 (.inl rfl)) (.inl rfl)) (.inl rfl)) (.inl rfl)
      rw [this, show gT (2 ^ n) (C0 n) 1 = 2 ^ (2 ^ n) - 1 by rw [← gN_one W]; exact gT_nat (i := 1) (by decide)]
    · exact (S14.grow (F15.trans F16) (List.prefix_refl _)).grow F1618 (List.prefix_refl _) v hv
  refine forL_ok (fun rest m H' => ∃ (dn : Nat) (C : Ck) (ss : List V), dn + rest.length = lp ∧ LapI n dn H15.length H9.length C ss m H' ∧ H'[H17.length]? = some (.range 0 (lp : Int))) ?_ ?_ _ _ _
    ⟨0, C0 n, [.ref H10.length] ++ acc, by simp, ⟨?_, W, by rw [C0_len]; (first | exact Nat.add_le_add_right (by assumption) _ | lia), fd17.fr F18 (fun z => z) (fun z => z), ss0, F1618.get _ _ e16 (.inr (by unfold SF; first | decide | lia)), by simp, by simp; lia, ?_, ⟨by (first | exact Nat.lt_of_lt_of_le (by assumption) (by assumption) | lia), L9, by (first | exact Nat.ne_of_gt (by assumption) | lia)⟩, rfl, rfl, rfl, rfl, rfl, rfl⟩, e18⟩
    fun rest m' H' x => by obtain ⟨_, _, _, _, _, x⟩ := x; exact x
  · rintro v rest m H19 k ⟨dn, C, ss, f1, X, r19⟩ kk
    refine law_lap (d := 5) (k84 := fun m' H' => H'[H17.length]? = some (O.range 0 (lp : Int)) ∧ k m' H') hn4 (by simp at f1; lia) X fun C' ss' m' H' X' hr => kk _ _ ⟨dn + 1, C', ss', by simp at f1 ⊢; lia, X', hr _ _ _ r19⟩
  · rintro m H19 ⟨dn, C, ss, f1, X, r19⟩
    have f1 : dn = lp := by simpa using f1
    subst f1
    have hlen24 : C.length ≤ 24 := by have := X.len; lia
    have FA := fewAll_small X.wf hlen24
    have hslb := lt_of_get X.hsl
    have hilb := lt_of_get X.hil
    have lof := X.lof
    refine onO_ok X.mc (onO_ok X.mi (k_init_ok (d := 10) (n := n) X.at_ X.wf hn4 FA X.hil (by simp) fun H20 F20 K20 => onO_ok X.ms ?_))
    obtain ⟨ss', vl, hss⟩ : ∃ ss' vl, ss = ss' ++ [vl] := ⟨ss.dropLast, ss.getLast (by intro e; have := X.pos; rw [e] at this; cases this), (List.dropLast_concat_getLast _).symm⟩
    have sl20 : H20[H15.length]? = some (.list ss) := F20.get _ _ X.hsl (.inr fun z => z)
    have S20 := X.some_.grow F20 (List.prefix_refl _)
    have hb5 := K20.sup.len
    have hSF : ∀ j, 10 ≤ j → ¬ SF j := fun j hj => by unfold SF; first | decide | lia
    refine sub_last (xs := ss') (v := vl) (by rw [sl20, hss]) (onO_ok X.mf (onO_ok X.ms (onO_ok X.mfull (law_drawn_ok (n := n) (C := C) (d := 9) (X.feed.fr F20 (fun z => z) (fun z => z)) (by lia) sl20 (by lia) X.pos (by have := X.le; lia) S20 fun t1 g1 H21 fd21 F21 e21 v21 => onO_ok X.mf (onO_ok X.ms (onO_ok X.mfull ?_))))))
    refine law_drawn_ok (n := n) (C := C) (d := 9) fd21 (by lia) (F21.get _ _ sl20 (.inr (hSF _ lof.1))) (by lia) X.pos (by have := X.le; lia) (S20.grow F21 (List.prefix_refl _)) fun t2 g2 H22 fd22 F22 e22 v22 => newO_ok fun H23 F23 l23 e23 => ?_
    have F2023 : Fr' SF H20 H23 := (F21.trans F22).trans F23.no
    have lo := K20.B.lo
    have K23 : Ctr (fun _ => True) n H19.length H23 C := by
      obtain ⟨xs, i1, i2⟩ := K20.inputs
      exact ⟨K20.at_.fr F2023 (by unfold SF; first | decide | lia) (by unfold SF; first | decide | lia) (by unfold SF; first | decide | lia) (by unfold SF; first | decide | lia), K20.wf, hn4, FA, K20.B.fr F2023 (by unfold SF; first | decide | lia), K20.sup.fr F2023 (fun j hj => by unfold SF; first | decide | lia), K20.known.fr F2023 (by unfold SF; first | decide | lia), K20.plans.fr F2023 (by unfold SF; first | decide | lia) (fun u hu => by unfold SF; first | decide | lia), xs, F2023.get _ _ i1 (.inl rfl), i2⟩
    have S23 := S20.grow F2023 (List.prefix_refl _)
    have hL := F2023.len
    refine law_asks (d := 3) (Q := Q) (C := C) (sl := H15.length) (il := H9.length) (ss := ss) (items := [vl, .ref t1, .ref t2]) hn4 _ K23 (by lia) hlen24 ⟨hslb, hilb, lof.1, lof.2.1⟩ S23 (F2023.get _ _ sl20 (.inr (hSF _ lof.1))) (F2023.get _ _ (F20.get _ _ X.hil (.inr fun z => z)) (.inr (hSF _ lof.2.1))) e23 (by have := F21.len; have := F22.len; (first | exact Nat.le_trans (by assumption) (Nat.le_trans (by assumption) (by assumption)) | lia)) (by simp) (fun v hv => ?_) X.ms X.mc X.mi X.mr rfl
      fun m' H' C' A' W' S' sl' il' ms mc mi mr => law_end (kn := ()) (d := 9) (Q := Q) hn4 m' A' W' S' sl' il' ms mc mi mr hq
    simp only [List.mem_cons, List.not_mem_nil, or_false] at hv
    rcases hv with rfl | rfl | rfl
    · exact S23 _ (by rw [hss]; simp)
    · exact ⟨t1, g1, rfl, (F22.trans F23.no).get _ _ e21 (.inl rfl), v21⟩
    · exact ⟨t2, g2, rfl, F23.get _ _ e22 (.inl rfl), v22⟩
  · exact ((A9.no F916).fr F1618 (by unfold SF; first | decide | lia) (by unfold SF; first | decide | lia) (by unfold SF; first | decide | lia) (by unfold SF; first | decide | lia))
  · exact F1618.get _ _ ((F14.trans F15).trans F16 |>.get _ _ il13 (.inr fun z => z)) (.inr (by unfold SF; first | decide | lia))
theorem law_ok : LawOk := fun P a l hl => law_gen P a l hl _ fun _ => rfl
end Mine
end
open PySem PySem.W PyProof.Rows
set_option maxRecDepth 100000 in
set_option maxHeartbeats 8000000 in
theorem PySem.Challenge.cw_nu0276_01_holds : PySem.Challenge.rw_nu0276_01.Holds := by
  w_on; o_law; o_head Mine.hk; (case hw => w_witness2)
  w_strict (
    intro w s₀ s₁ mg mb G Y fa o pm cd doc dV kV ho hd hcd hD hmg hg args vals as hpre hlay hrd hwl hlo
    refine Ground.open G ?_
    intro T B D TE TW
    have TR := topRead_of T
    clear D G T B TE TW ho hd hcd hD
    wrow_args hpre hlay hrd hwl hlo
    all_goals (first | refine callC_kw (enter_call ?_) | refine enter_call ?_ | refine callC_kw (enter_callW ?_) | refine enter_callW ?_ | w_how)
    rename_i hc _
    refine Mine.law_ends Mine.law_ok Y TR hg hmg (by assumption) (by assumption) (by lia) fun s' h1 h2 h3 => GoodW.toG ⟨.inl ⟨_, .bool true, [], rfl, fun _ => rfl, .bool true, by kernel_rfl, fun _ => ⟨List.nodup_nil, by simp⟩⟩, h1, h2, h3⟩)
