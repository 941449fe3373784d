import PyProof.Rows.All
import PyProof.P3Statements
import PyProof.SliceMore
import Open.Row
import Open.Line
import Wide.All
import Wide.FinOn
import PySem.Challenge.RW_uf030011_02
set_option Elab.async false
section
set_option autoImplicit false
namespace Mine
open PySem

/-- abstract values -/
inductive AV where
  | none
  | bool (b : Bool)
  | int (i : Int)
  | str (s : Str)
  | tup (l : List AV)
  | lst (l : List AV)
  | dct (ks vs : List AV)
  | obj (c : Str) (n : Nat)
  | cel (n : Nat)
  | exc (c : Str)
  | sett (n : Nat)
  deriving Inhabited

/-- what a variable or a field holds: a shared value, or a container that it alone owns -/
inductive LV where
  | val (v : AV)
  | own (v : AV)
  deriving Inhabited

inductive AO where
  | flds (l : List (Str × LV))
  | cont (c : AV)
  deriving Inhabited

noncomputable abbrev St := List AO
noncomputable abbrev Loc := List (Str × LV)
structure S where
  loc : Loc
  st : St

inductive Out (α : Type) where
  | ok (a : α) (s : S)
  | exc (c : Str) (s : S)
  | stuck

inductive Ret where
  | ok (v : AV) (st : St)
  | exc (c : Str) (st : St)
  | stuck

noncomputable abbrev D (α : Type) := S → Out α

inductive Fl where
  | next | brk | cont
  | ret (v : AV)

noncomputable def pur {α : Type} (a : α) : D α := fun s => .ok a s
noncomputable def stk {α : Type} : D α := fun _ => .stuck
noncomputable def bnd {α β : Type} (m : D α) (f : α → D β) : D β := fun s =>
  match m s with
  | .ok a s' => f a s'
  | .exc c s' => .exc c s'
  | .stuck => .stuck
noncomputable def opt {α : Type} (o : Option α) : D α := fun s => match o with | some a => .ok a s | none => .stuck

noncomputable def setA {α : Type} (x : Str) (v : α) : List (Str × α) → List (Str × α)
  | [] => [(x, v)]
  | (y, w) :: r => if y = x then (x, v) :: r else (y, w) :: setA x v r
noncomputable def getA {α : Type} (x : Str) : List (Str × α) → Option α
  | [] => none
  | (y, w) :: r => if y = x then some w else getA x r
mutual
noncomputable def depthV : AV → Nat
  | .tup l | .lst l => depthVs l + 1
  | _ => 0
noncomputable def depthVs : List AV → Nat
  | [] => 0
  | x :: r => max (depthV x) (depthVs r)
end
mutual
/-- no dict, object, cell, exception within -/
noncomputable def dataV : AV → Bool
  | .none | .bool _ | .int _ | .str _ => true
  | .tup l | .lst l => dataVs l
  | _ => false
noncomputable def dataVs : List AV → Bool
  | [] => true
  | x :: r => dataV x && dataVs r
end
mutual
noncomputable def toD : AV → PyData
  | .none => .none
  | .bool b => .bool b
  | .int i => .int i
  | .str s => .str s
  | .tup l => .tuple (toDs l)
  | .lst l => .list (toDs l)
  | _ => .none
noncomputable def toDs : List AV → List PyData
  | [] => []
  | x :: r => toD x :: toDs r
end
noncomputable def eqV (a b : AV) : Option Bool :=
  if dataV a && dataV b && (decide (depthV a ≤ 64) || decide (depthV b ≤ 64)) then some (PyData.eqv (toD a) (toD b)) else none
noncomputable def isNone : AV → Bool
  | .none => true
  | _ => false
noncomputable def truthV : AV → Option Bool
  | .bool b => some b
  | _ => none
noncomputable def lenV : AV → Option Nat
  | .str s => some s.length
  | .tup l | .lst l => some l.length
  | .dct ks _ => some ks.length
  | .sett n => some n
  | _ => none
noncomputable def itemsV : AV → Option (List AV)
  | .tup l | .lst l => some l
  | .dct ks _ => some ks
  | _ => none
noncomputable def at? (l : List AV) (i : Int) : Option AV :=
  if 0 ≤ i then l[i.toNat]? else if 0 ≤ i + l.length then l[(i + l.length).toNat]? else none
noncomputable def keyEq : AV → AV → Bool
  | .str a, .str b => a == b
  | .int a, .int b => a == b
  | _, _ => false
noncomputable def isKey : AV → Bool
  | .str _ | .int _ => true
  | _ => false
noncomputable def dGet (k : AV) : List AV → List AV → Option AV
  | x :: xs, v :: vs => if keyEq k x then some v else dGet k xs vs
  | _, _ => none
noncomputable def dHas (k : AV) : List AV → Bool
  | [] => false
  | x :: xs => keyEq k x || dHas k xs
noncomputable def idxV (c i : AV) : Option AV :=
  match c, i with
  | .tup l, .int i | .lst l, .int i => at? l i
  | .str s, .int i => if 0 ≤ i then (s.cps[i.toNat]?).map fun c => .str ⟨#[c]⟩ else none
  | .dct ks vs, k => if isKey k then dGet k ks vs else none
  | _, _ => none
noncomputable def partOf : AV → Option (Option Int)
  | .none => some none
  | .int i => some (some i)
  | _ => none
noncomputable def sliceL (l : List AV) (lo hi : AV) : Option (List AV) :=
  match partOf lo, partOf hi with
  | some a, some b => some ((l.drop (a.elim 0 (clipAt l.length))).take (b.elim l.length (clipAt l.length) - a.elim 0 (clipAt l.length)))
  | _, _ => none
noncomputable def slcV (c lo hi : AV) : Option AV :=
  match c with
  | .tup l => (match lo, hi with
    | .int a, .none => if 1 ≤ a ∧ a ≤ l.length then some (.tup (l.drop a.toNat)) else none
    | _, _ => none)
  | .lst l => (sliceL l lo hi).map .lst
  | _ => none
noncomputable def mkLst (l : List AV) : Option AV := if l.length ≤ sizeLine then some (.lst l) else none
noncomputable def mkTup (l : List AV) : Option AV := if l.length ≤ sizeLine then some (.tup l) else none
noncomputable def mkSt (s : Str) : Option AV := if s.length ≤ sizeLine then some (.str s) else none
noncomputable def addV : AV → AV → Option AV
  | .int a, .int b => some (.int (a + b))
  | .str a, .str b => mkSt (a ++ b)
  | .lst a, .lst b => mkLst (a ++ b)
  | .tup a, .tup b => mkTup (a ++ b)
  | _, _ => none
/-- small enough for a product, a quotient -/
noncomputable def smallI (x : Int) : Bool := decide (x.natAbs < 9223372036854775808)
noncomputable def repL (l : List AV) : Nat → List AV
  | 0 => []
  | n + 1 => l ++ repL l n
noncomputable def binV (op : Operator) (a b : AV) : Option AV :=
  match op with
  | .Add => addV a b
  | .Sub => (match a, b with | .int x, .int y => some (.int (x - y)) | _, _ => none)
  | .Mult => (match a, b with
    | .int x, .int y => if smallI x || smallI y then some (.int (x * y)) else none
    | .lst l, .int n => (match l with | [x] => if smallI n = true ∧ n.toNat ≤ sizeLine then some (.lst (repL [x] n.toNat)) else none | _ => none)
    | _, _ => none)
  | .FloorDiv => (match a, b with | .int x, .int y => if y = 0 ∨ smallI y = false then none else some (.int (Int.fdiv x y)) | _, _ => none)
  | .Mod => (match a, b with | .int x, .int y => if y = 0 ∨ smallI y = false then none else some (.int (Int.fmod x y)) | _, _ => none)
  | .Pow => (match a, b with | .int x, .int y => if 0 ≤ y ∧ y ≤ 20 ∧ x.natAbs ≤ 1000 then some (.int (x ^ y.toNat)) else none | _, _ => none)
  | _ => none
noncomputable def unV (op : UnaryOp) (a : AV) : Option AV :=
  match op with
  | .Not => (truthV a).map fun b => .bool (!b)
  | .USub => (match a with | .int x => some (.int (-x)) | _ => none)
  | _ => none
noncomputable def inV (x c : AV) : Option Bool :=
  match c with
  | .lst l => if dataV x && dataVs l && decide (depthV x ≤ 64) then some ((toDs l).any fun y => PyData.eqv y (toD x)) else none
  | .dct ks _ => if isKey x then some (dHas x ks) else none
  | _ => none
noncomputable def cmpV (op : CmpOp) (a b : AV) : Option Bool :=
  match op with
  | .Eq => eqV a b
  | .NotEq => (eqV a b).map (!·)
  | .Lt => (match a, b with | .int x, .int y => some (decide (x < y)) | _, _ => none)
  | .LtE => (match a, b with | .int x, .int y => some (decide (x ≤ y)) | _, _ => none)
  | .Gt => (match a, b with | .int x, .int y => some (decide (y < x)) | _, _ => none)
  | .GtE => (match a, b with | .int x, .int y => some (decide (y ≤ x)) | _, _ => none)
  | .Is => if isNone b then some (isNone a) else none
  | .IsNot => if isNone b then some (!isNone a) else none
  | .In => inV a b
  | .NotIn => (inV a b).map (!·)
noncomputable def strsOf : List AV → Option (List Str)
  | [] => some []
  | .str s :: r => (strsOf r).map (s :: ·)
  | _ :: _ => none
noncomputable def catS : List Str → Str
  | [] => ⟨#[]⟩
  | s :: r => s ++ catS r
noncomputable def rangeL (a b : Int) : List AV := (List.range (b - a).toNat).map fun (k : Nat) => .int (a + (k : Int))
structure Ctx where
  call : Str → Str → List AV → St → Ret
  make : Str → List AV → St → Ret
  fn : Str → Bool
  cls : Str → Bool
  xcls : Str → Bool
  sub : Str → Str → Bool
  const : Str → Option AV
  turns : Nat

noncomputable def okNm (x : Str) : Bool := !(x == ("__debug__" : Str)) && !(x == ("__classdict__" : Str))
noncomputable def isLocK : Option NameKind → Bool
  | some .local | some .cell | some .free => true
  | _ => false
noncomputable def isLoc (sc : List (Str × NameKind)) (x : Str) : Bool := isLocK (sc.lookup x) && okNm x
noncomputable def isGlob (sc : List (Str × NameKind)) (x : Str) : Bool := (sc.lookup x == some .globalImplicit) && okNm x

noncomputable def rdLoc (x : Str) : D AV := fun s =>
  match getA x s.loc with
  | some (.val v) => .ok v s
  | some (.own v) => .ok v { s with loc := setA x (.val v) s.loc }
  | none => .stuck
/-- read without letting it go -/
noncomputable def pkLoc (x : Str) : D AV := fun s =>
  match getA x s.loc with
  | some (.val v) | some (.own v) => .ok v s
  | none => .stuck
noncomputable def wrLoc (x : Str) (v : LV) : D Unit := fun s => .ok () { s with loc := setA x v s.loc }
noncomputable def dName (X : Ctx) (x : Str) (sc : List (Str × NameKind)) : D AV :=
  if isLoc sc x then rdLoc x else if isGlob sc x then opt (X.const x) else stk
noncomputable def dPeek (X : Ctx) (x : Str) (sc : List (Str × NameKind)) : D AV :=
  if isLoc sc x then pkLoc x else if isGlob sc x then opt (X.const x) else stk

/-- the content behind a cell, else the value itself -/
noncomputable def deref (v : AV) : D AV := fun s =>
  match v with
  | .cel n => (match s.st[n]? with | some (.cont c) => .ok c s | _ => .stuck)
  | v => .ok v s
noncomputable def dRet (r : Ret) : D AV := fun s =>
  match r with
  | .ok v st => .ok v { s with st := st }
  | .exc c st => .exc c { s with st := st }
  | .stuck => .stuck
noncomputable def dCallF (X : Ctx) (c f : Str) (vs : List AV) : D AV := fun s => dRet (X.call c f vs s.st) s
noncomputable def seqD : List (D AV) → D (List AV)
  | [] => pur []
  | m :: r => bnd m fun v => bnd (seqD r) fun vs => pur (v :: vs)

noncomputable def biLen (v : AV) : D AV := bnd (deref v) fun c => opt ((lenV c).map fun n => .int n)
noncomputable def typeNames : List (Str × String) := [("list", "list"), ("tuple", "tuple"), ("dict", "dict"), ("int", "int"), ("bool", "bool"), ("str", "str")]
noncomputable def tyNm : AV → Option String
  | .bool _ => some "bool"
  | .int _ => some "int"
  | .str _ => some "str"
  | .tup _ => some "tuple"
  | .lst _ => some "list"
  | _ => none
noncomputable def isiT (a t : String) : Bool := a == t || (a == "bool" && t == "int")
noncomputable def isiTy (X : Ctx) (t : Str) : Option String := if X.cls t || X.xcls t then none else typeNames.lookup t

noncomputable def bindT (t : Expr) (v : AV) : Option Loc :=
  match t with
  | .Name x _ => some [(x, .val v)]
  | .Tuple ts _ _ => (match v with
    | .tup vs => if ts.length == vs.length then
        (ts.zip vs).foldr (fun p r => match p.1, r with | .Name x _, some r => some ((x, LV.val p.2) :: r) | _, _ => none) (some []) else none
    | _ => none)
  | _ => none
noncomputable def capNames (sc : List (Str × NameKind)) : List Str := (sc.filter fun p => p.2 == .free).map (·.1)
noncomputable def capOf (xs : List Str) (l : Loc) : Loc := xs.filterMap fun x => match getA x l with
  | some (.val v) => some (x, LV.val v)
  | some (.own v) => some (x, LV.val v)
  | none => none
/-- the captured variables let go what they own -/
noncomputable def letGoN : List Str → Loc → Loc
  | [], l => l
  | x :: r, l => letGoN r (match getA x l with
    | some (.own v) => setA x (.val v) l
    | _ => l)
noncomputable def assignT (t : Expr) (v : AV) : D Unit := fun s =>
  match bindT t v with
  | some b => .ok () { s with loc := b.foldl (fun l p => setA p.1 p.2 l) s.loc }
  | none => .stuck
noncomputable def testD (tests : List (D AV)) : D Bool :=
  match tests with
  | [] => pur true
  | [t] => bnd t fun v => opt (truthV v)
  | _ => stk
noncomputable def consO (v : AV) : Out (List AV) → Out (List AV)
  | .ok vs s => .ok (v :: vs) s
  | o => o
noncomputable def compGo (tgt : Expr) (elt : D AV) (tests : List (D AV)) (cap : Loc) : List AV → St → Out (List AV)
  | [], st => .ok [] ⟨cap, st⟩
  | x :: r, st => bnd (assignT tgt x) (fun _ => bnd (testD tests) fun b => if b then bnd elt fun v => fun s => consO v (compGo tgt elt tests cap r s.st) else fun s => compGo tgt elt tests cap r s.st) ⟨cap, st⟩
noncomputable def nmLoc (sc : List (Str × NameKind)) : Expr → Bool
  | .Name x _ => (sc.lookup x == some .local) && okNm x
  | _ => false
noncomputable def tgtLoc (sc : List (Str × NameKind)) : Expr → Bool
  | .Name x _ => (sc.lookup x == some .local) && okNm x
  | .Tuple ts _ _ => ts.all (nmLoc sc)
  | _ => false
noncomputable def scOk (sc sc' : List (Str × NameKind)) : Bool := sc'.all fun p => match p.2 with
  | .cell => false
  | .local => sc'.lookup p.1 == some .local
  | .free => (sc.lookup p.1 == some .cell || sc.lookup p.1 == some .free) && sc'.lookup p.1 == some .free
  | _ => true
noncomputable def dComp (sc' : List (Str × NameKind)) (tgt : Expr) (elt : D AV) (tests : List (D AV)) (items : List AV) : D (List AV) := fun s =>
  match compGo tgt elt tests (capOf (capNames sc') s.loc) items s.st with
  | .ok vs s' => .ok vs ⟨letGoN (capNames sc') s.loc, s'.st⟩
  | .exc c s' => .exc c ⟨letGoN (capNames sc') s.loc, s'.st⟩
  | .stuck => .stuck

noncomputable def boolGo (op : BoolOp) : List (D AV) → D AV
  | [] => stk
  | [m] => m
  | m :: r => bnd m fun v => bnd (opt (truthV v)) fun t =>
    match op, t with
    | .And, false | .Or, true => pur v
    | _, _ => boolGo op r
noncomputable def cmpGo (a : AV) : List CmpOp → List (D AV) → D AV
  | [op], [m] => bnd m fun b => bnd (deref b) fun b' => opt ((cmpV op a b').map .bool)
  | op :: ops, m :: r => bnd m fun b => (match b with
    | .int i => bnd (opt (cmpV op a (.int i))) fun t => if t then cmpGo (.int i) ops r else pur (.bool false)
    | _ => stk)
  | _, _ => stk

/-- how an expression is asked: for its value; to be looked at (an owner keeps what it owns); for its items -/
inductive Md where
  | v | p | i
  deriving DecidableEq

noncomputable def post (md : Md) (d : D AV) : D AV :=
  match md with
  | .i => bnd d fun c => opt ((itemsV c).map .lst)
  | _ => d
noncomputable def dNameM (X : Ctx) (x : Str) (md : Md) (sc : List (Str × NameKind)) : D AV :=
  match md with
  | .p => dPeek X x sc
  | _ => dName X x sc
noncomputable def strCheck (s : Str) : D AV := if PyData.strOk s = true ∧ s.length ≤ sizeLine then pur (.str s) else stk
noncomputable def dConst : Const → D AV
  | .none => pur .none
  | .bool b => pur (.bool b)
  | .int i => pur (.int i)
  | .str s => strCheck s
  | _ => stk
/-- which built-in -/
inductive Bi where
  | len | list | tuple | dict | int | abs | sum | max | min | isinstance | range | enumerate | zip | reversed | set
  deriving DecidableEq
noncomputable def biNames : List (Str × Bi) := [("len", .len), ("list", .list), ("tuple", .tuple), ("dict", .dict), ("int", .int), ("abs", .abs), ("sum", .sum), ("max", .max), ("min", .min), ("isinstance", .isinstance),
  ("range", .range), ("enumerate", .enumerate), ("zip", .zip), ("reversed", .reversed), ("set", .set)]
inductive Callee where
  | fn | cls | xcls | bi (b : Bi) | no
noncomputable def calleeOf (X : Ctx) (id : Str) (sc : List (Str × NameKind)) : Callee :=
  if !isGlob sc id then .no
  else if X.fn id then .fn
  else if X.cls id then .cls
  else if X.xcls id then .xcls
  else match biNames.lookup id with
    | some b => .bi b
    | none => .no
/-- a built-in that makes what a loop takes -/
noncomputable def isIt : Bi → Bool
  | .range | .enumerate | .zip | .reversed => true
  | _ => false
noncomputable def okR (x : Int) : Bool := decide (x.natAbs < 1000000000000000000)
noncomputable def itV (b : Bi) (vs : List AV) : Option AV :=
  match b, vs with
  | .range, [.int n] => if okR n then some (.lst (rangeL 0 n)) else none
  | .range, [.int a, .int n] => if okR a && okR n then some (.lst (rangeL a n)) else none
  | _, _ => none
noncomputable def biV (b : Bi) (vs : List AV) : Option AV :=
  match b, vs with
  | .list, [.lst l] => mkLst l
  | .list, [.tup l] => mkLst l
  | .tuple, [.lst l] => mkTup l
  | .tuple, [.tup l] => some (.tup l)
  | _, _ => none
noncomputable def secondName : List Expr → Option Str
  | [_, .Name x _] => some x
  | _ => none
noncomputable def dJoin (vs : List AV) : D AV := match vs with
  | [.lst l] => opt ((strsOf l).bind fun ss => mkSt (catS ss))
  | _ => stk
noncomputable def isEmptyStr : Expr → Bool
  | .Constant (.str s) _ _ => s.length == 0
  | _ => false
/-- a base, then what is asked of it; a name is looked at, not let go -/
noncomputable def withBase {α : Type} (X : Ctx) (sc : List (Str × NameKind)) (v : Expr) (dv : D AV) (ix : D α) (k : AV → α → Option AV) : D AV :=
  match v with
  | .Name x _ => bnd (dPeek X x sc) fun _ => bnd ix fun i => bnd (dPeek X x sc) fun c => bnd (deref c) fun c' => opt (k c' i)
  | _ => bnd dv fun c => bnd ix fun i => bnd (deref c) fun c' => opt (k c' i)

mutual
noncomputable def ev (X : Ctx) : Expr → Md → List (Str × NameKind) → D AV
  | .Constant c _ _, md, _ => post md (dConst c)
  | .Name x _, md, sc => post md (dNameM X x md sc)
  | .BinOp l op r _, md, sc => post md (bnd (ev X l .v sc) fun a => bnd (ev X r .v sc) fun b => opt (binV op a b))
  | .UnaryOp op e _, md, sc => post md (bnd (ev X e .v sc) fun a => opt (unV op a))
  | .BoolOp op es _, md, sc => post md (boolGo op (evs X es .v sc))
  | .Compare l ops cs _, md, sc => if ops.length == cs.length then post md (bnd (ev X l .v sc) fun a => cmpGo a ops (evs X cs .p sc)) else stk
  | .Tuple es _ _, md, sc => post md (bnd (seqD (evs X es .v sc)) fun vs => opt (mkTup vs))
  | .List es _, md, sc => post md (bnd (seqD (evs X es .v sc)) fun vs => opt (mkLst vs))
  | .Subscript v i _, md, sc =>
    (match i with
     | .Slice lo hi none _ => post md (withBase X sc v (ev X v .v sc) (bnd (evo X lo sc) fun a => bnd (evo X hi sc) fun b => pur (a, b)) fun c p => slcV c p.1 p.2)
     | i => post md (withBase X sc v (ev X v .v sc) (ev X i .v sc) idxV))
  | .ListComp elt gens scope _, md, sc =>
    (match gens with
     | [⟨tgt, iter, ifs, isa⟩] => if isa != 0 || !tgtLoc scope.names tgt || !scOk sc scope.names || scope.kind != .function then stk else post md (bnd (ev X iter .i sc) fun its => match its with
        | .lst l => if l.length ≤ sizeLine then bnd (dComp scope.names tgt (ev X elt .v scope.names) (evs X ifs .v scope.names) l) fun vs => opt (mkLst vs) else stk
        | _ => stk)
     | _ => stk)
  | .Call f args kws _, md, sc =>
    (match f with
     | .Name id _ =>
       (match calleeOf X id sc with
        | .fn => if kws.isEmpty then post md (bnd (seqD (evs X args .v sc)) fun vs => dCallF X ⟨#[]⟩ id vs) else stk
        | .cls => stk
        | .xcls => stk
        | .bi .isinstance =>
          (match evs X args .p sc, secondName args with
           | [d, _], some t => (match isiTy X t with
             | some t' => if kws.isEmpty && isGlob sc t then post md (bnd d fun v => opt ((tyNm v).map fun a => .bool (isiT a t'))) else stk
             | none => stk)
           | _, _ => stk)
        | .bi .len => (match evs X args .p sc with | [d] => if kws.isEmpty then post md (bnd d biLen) else stk | _ => stk)
        | .bi b => if kws.isEmpty then (if isIt b then (match md with | .i => bnd (seqD (evs X args .v sc)) fun vs => opt (itV b vs) | _ => stk) else post md (bnd (seqD (evs X args .v sc)) fun vs => opt (biV b vs))) else stk
        | .no => stk)
     | .Attribute o m _ => if m == "join" && isEmptyStr o && kws.isEmpty && args.length == 1 then post md (bnd (seqD (evs X args .v sc)) dJoin) else stk
     | _ => stk)
  | _, _, _ => stk
noncomputable def evs (X : Ctx) : List Expr → Md → List (Str × NameKind) → List (D AV)
  | [], _, _ => []
  | e :: r, md, sc => ev X e md sc :: evs X r md sc
noncomputable def evos (X : Ctx) : List (Option Expr) → List (Str × NameKind) → List (D AV)
  | [], _ => []
  | e :: r, sc => evo X e sc :: evos X r sc
noncomputable def evo (X : Ctx) : Option Expr → List (Str × NameKind) → D AV
  | none, _ => pur .none
  | some e, sc => ev X e .v sc
end

/-- an expression that makes a container of its own -/
noncomputable def makes : Expr → Bool
  | .List .. | .ListComp .. => true
  | _ => false
noncomputable def isCont : AV → Bool
  | .lst _ | .dct _ _ => true
  | _ => false
noncomputable def lvOf (own : Bool) (v : AV) : LV := if own && isCont v then .own v else .val v
noncomputable def thenF (m : D Fl) (k : D Fl) : D Fl := bnd m fun f => match f with | .next => k | f => pur f
noncomputable def isSt (sc : List (Str × NameKind)) (x : Str) : Bool :=
  match sc.lookup x with
  | some .local | some .cell => okNm x
  | _ => false
noncomputable def nmSt (sc : List (Str × NameKind)) : Expr → Bool
  | .Name x _ => isSt sc x
  | _ => false
noncomputable def tgtOk (sc : List (Str × NameKind)) : Expr → Bool
  | .Name x _ => isSt sc x
  | .Tuple ts _ _ => ts.all (nmSt sc)
  | _ => false
noncomputable def forGo (t : Expr) (body : D Fl) : List AV → D Fl
  | [] => pur .next
  | x :: r => bnd (assignT t x) fun _ => bnd body fun f => match f with
    | .next | .cont => forGo t body r
    | .brk => pur .next
    | .ret v => pur (.ret v)
mutual
noncomputable def ex (X : Ctx) : Stmt → List (Str × NameKind) → D Fl
  | .Pass _, _ => pur .next
  | .Return v _, sc => bnd (evo X v sc) fun a => pur (.ret a)
  | .If t a b _, sc => bnd (ev X t .v sc) fun v => bnd (opt (truthV v)) fun c => if c then exs X a sc else exs X b sc
  | .For t it body orelse _, sc => if orelse.isEmpty && tgtOk sc t then bnd (ev X it .i sc) fun l => (match l with | .lst l => forGo t (exs X body sc) l | _ => stk) else stk
  | .Assign ts v _, sc => (match ts with
    | [.Name x _] => if isSt sc x then bnd (ev X v .v sc) fun a => bnd (wrLoc x (lvOf (makes v) a)) fun _ => pur .next else stk
    | _ => stk)
  | _, _ => stk
noncomputable def exs (X : Ctx) : List Stmt → List (Str × NameKind) → D Fl
  | [], _ => pur .next
  | s :: r, sc => thenF (ex X s sc) (exs X r sc)
end

structure Fn where
  params : List Str
  body : List Stmt
  names : List (Str × NameKind)
structure Pg where
  fns : List (Str × Str × Fn)
  classes : List Str
  excs : List (Str × List Str)
  consts : List (Str × AV)
noncomputable def Pg.find (P : Pg) (c f : Str) : Option Fn := (P.fns.find? fun x => x.1 == c && x.2.1 == f).map (·.2.2)
noncomputable def Pg.sub (P : Pg) (c d : Str) : Bool := c == d || (match P.excs.lookup c with | some l => l.contains d | none => false)
noncomputable def flowV : Fl → AV
  | .ret v => v
  | _ => .none
noncomputable def retOf (o : Out Fl) : Ret :=
  match o with
  | .ok f s => .ok (flowV f) s.st
  | .exc c s => .exc c s.st
  | .stuck => .stuck
noncomputable def runFn (X : Ctx) (fn : Fn) (vs : List AV) (st : St) : Ret :=
  if fn.params.length == vs.length then retOf (exs X fn.body fn.names ⟨(fn.params.zip vs).map fun p => (p.1, .val p.2), st⟩) else .stuck
noncomputable def ctxOf (P : Pg) (K : Nat) (call : Str → Str → List AV → St → Ret) (call3 : Str → Str → List AV → St → Ret) : Ctx where
  call := call
  make := fun c vs st => match call3 c "__init__" (.obj c st.length :: vs) (st ++ [.flds []]) with
    | .ok _ st' => .ok (.obj c st.length) st'
    | .exc e st' => .exc e st'
    | .stuck => .stuck
  fn := fun f => (P.find ⟨#[]⟩ f).isSome
  cls := fun c => P.classes.contains c
  xcls := fun c => (P.excs.lookup c).isSome
  sub := P.sub
  const := fun x => P.consts.lookup x
  turns := K
noncomputable def callN (P : Pg) (K : Nat) : Nat → Str → Str → List AV → St → Ret
  | 0, _, _, _, _ => .stuck
  | n + 1, c, f, vs, st =>
    match P.find c f with
    | some fn => runFn (ctxOf P K (callN P K n) (callN P K (n - 4))) fn vs st
    | none => .stuck

noncomputable def argNames (a : Arguments) : List Str := a.args.map (·.arg)
noncomputable def pgOf (body : List Stmt) : Pg :=
  body.foldl (fun P s => match s with
    | .FunctionDef n a b _ _ _ sc _ _ _ => { P with fns := P.fns ++ [(⟨#[]⟩, n, ⟨argNames a, b, sc.names⟩)] }
    | .ClassDef n bases _ b _ _ _ _ _ _ _ => (match bases with
      | [] => { P with classes := P.classes ++ [n], fns := P.fns ++ b.filterMap fun m => match m with
          | .FunctionDef f a b _ _ _ sc _ _ _ => some (n, f, (⟨argNames a, b, sc.names⟩ : Fn))
          | _ => none }
      | [.Name m _] => { P with excs := P.excs ++ [(n, m :: (P.excs.lookup m).getD [])] }
      | _ => P)
    | .Assign [.Name x _] (.Constant (.int i) _ _) _ => { P with consts := P.consts ++ [(x, .int i)] }
    | _ => P) ⟨[], [], [], []⟩
end Mine
end
section
set_option autoImplicit false
namespace Mine
open PySem

noncomputable abbrev lim : Nat := sizeLine

inductive Role where
  | loc
  | cell (x : Str)
  | own (x : Str)
  | fld (n : Nat)
  | fown (n : Nat) (f : Str)
  | cel (n : Nat)
  | kept (o : Obj)
  | held (o : Obj)

noncomputable abbrev Gh := Addr → Option Obj
structure Wd where
  g : Gh
  role : Addr → Option Role
  labs : List Addr
  val : Str → Option Value

/-- what an own class is at the top -/
structure Cx where
  prog : Program
  w : World
  s0 : Shared
  P : Pg
  clsA : Str → Option Addr
  mg : Str → Option Value
  mb : Str → Option Value
  fnA : Str → Str → Option Addr
  fnO : Addr → Obj
  fnD : Addr → FuncData

noncomputable def Gh.tup (g : Gh) (a : Addr) (vs : Array Value) : Prop := ∃ n, g a = some { cls := .type "tuple", data := .seq vs n }
noncomputable def Gh.lst (g : Gh) (a : Addr) (vs : Array Value) : Prop := ∃ n, g a = some { cls := .type "list", data := .seq vs n }
mutual
noncomputable def VRep (C : Cx) (g : Gh) (labs : List Addr) : AV → Value → Prop
  | .none, v => v = .none
  | .bool b, v => v = .bool b
  | .int i, v => ∃ t, v = .int i t
  | .str s, v => PyData.strOk s = true ∧ s.length ≤ lim ∧ ∃ t, v = .str s t
  | .tup l, v => ∃ a vs, v = .ref a ∧ Gh.tup g a vs ∧ vs.size ≤ lim ∧ VReps C g labs l vs.toList
  | .lst l, v => ∃ a vs, v = .ref a ∧ Gh.lst g a vs ∧ vs.size ≤ lim ∧ VReps C g labs l vs.toList
  | .dct _ _, _ => False
  | .obj c n, v => ∃ a x d o, v = .ref x ∧ C.clsA c = some a ∧ labs[n]? = some d ∧ g x = some o ∧ o.cls = .ref a ∧ o.dict = some d ∧ o.data = .plain
  | .cel n, v => ∃ a, labs[n]? = some a ∧ v = .ref a
  | .exc _, _ => False
  | .sett _, _ => False
noncomputable def VReps (C : Cx) (g : Gh) (labs : List Addr) : List AV → List Value → Prop
  | [], vs => vs = []
  | x :: r, vs => ∃ v vs', vs = v :: vs' ∧ VRep C g labs x v ∧ VReps C g labs r vs'
end

theorem prefix_get {l l' : List Addr} (h : ∃ r, l' = l ++ r) {n : Nat} {a : Addr} (e : l[n]? = some a) : l'[n]? = some a := by
  obtain ⟨r, rfl⟩ := h
  rw [List.getElem?_append_left (List.getElem?_eq_some_iff.mp e).1]; exact e

theorem Gh.tup.mono {g g' : Gh} {a : Addr} {vs : Array Value} (h : Gh.tup g a vs) (k : ∀ b o, g b = some o → g' b = some o) : Gh.tup g' a vs :=
  let ⟨n, e⟩ := h; ⟨n, k _ _ e⟩
theorem Gh.lst.mono {g g' : Gh} {a : Addr} {vs : Array Value} (h : Gh.lst g a vs) (k : ∀ b o, g b = some o → g' b = some o) : Gh.lst g' a vs :=
  let ⟨n, e⟩ := h; ⟨n, k _ _ e⟩
theorem Gh.tup.heap {g : Gh} {h' : Heap} {a : Addr} {vs : Array Value} (h : Gh.tup g a vs) (k : ∀ b o, g b = some o → h'.get? b = some o) : h'.IsTuple a vs :=
  let ⟨n, e⟩ := h; ⟨_, k _ _ e, rfl, n, rfl⟩
theorem Gh.lst.heap {g : Gh} {h' : Heap} {a : Addr} {vs : Array Value} (h : Gh.lst g a vs) (k : ∀ b o, g b = some o → h'.get? b = some o) : h'.IsList a vs :=
  let ⟨n, e⟩ := h; ⟨_, k _ _ e, rfl, n, rfl⟩

section
variable {C : Cx} {g g' : Gh} {labs labs' : List Addr}
mutual
theorem VRep.mono (hg : ∀ b o, g b = some o → g' b = some o) (hl : ∃ r, labs' = labs ++ r) : ∀ {av : AV} {v : Value}, VRep C g labs av v → VRep C g' labs' av v
  | .none, _, h => by simpa only [VRep] using h
  | .bool _, _, h => by simpa only [VRep] using h
  | .int _, _, h => by simpa only [VRep] using h
  | .str _, _, h => by simpa only [VRep] using h
  | .tup l, v, h => by
    simp only [VRep] at h ⊢
    obtain ⟨a, vs, h1, h2, h3, h4⟩ := h
    exact ⟨a, vs, h1, h2.mono hg, h3, VReps.mono hg hl h4⟩
  | .lst l, v, h => by
    simp only [VRep] at h ⊢
    obtain ⟨a, vs, h1, h2, h3, h4⟩ := h
    exact ⟨a, vs, h1, h2.mono hg, h3, VReps.mono hg hl h4⟩
  | .dct _ _, _, h => by simp only [VRep] at h
  | .obj c n, v, h => by
    simp only [VRep] at h ⊢
    obtain ⟨a, x, d, o, h1, h2, h3, h4, h5⟩ := h
    exact ⟨a, x, d, o, h1, h2, prefix_get hl h3, hg _ _ h4, h5⟩
  | .cel n, v, h => by
    simp only [VRep] at h ⊢
    obtain ⟨a, h1, h2⟩ := h
    exact ⟨a, prefix_get hl h1, h2⟩
  | .exc _, _, h => by simp only [VRep] at h
  | .sett _, _, h => by simp only [VRep] at h
theorem VReps.mono (hg : ∀ b o, g b = some o → g' b = some o) (hl : ∃ r, labs' = labs ++ r) : ∀ {l : List AV} {vs : List Value}, VReps C g labs l vs → VReps C g' labs' l vs
  | [], _, h => by simpa only [VReps] using h
  | x :: r, vs, h => by
    simp only [VReps] at h ⊢
    obtain ⟨v, vs', h1, h2, h3⟩ := h
    exact ⟨v, vs', h1, VRep.mono hg hl h2, VReps.mono hg hl h3⟩
end
end

noncomputable def IsTrace (C : Cx) (W : Wd) (h : Heap) (c : Str) (v : Value) : Prop :=
  ∃ e a oe vs, v = .ref e ∧ C.clsA c = some a ∧ W.g e = none ∧ W.role e = none ∧ h.get? e = some oe ∧ oe.cls = .ref a ∧ oe.data = .fields vs ∧
    (vs[1]? = some .none ∨ ∃ T oT ts fl, vs[1]? = some (.ref T) ∧ T ≠ e ∧ W.g T = none ∧ W.role T = none ∧ h.get? T = some oT ∧ oT.data = .fields ts ∧ ts[3]? = some fl)

/-- a container at an address, as it stands in the heap -/
noncomputable def CRep (C : Cx) (W : Wd) (h : Heap) (a : Addr) : AV → Prop
  | .lst l => ∃ vs, h.PlainList a vs ∧ vs.size ≤ lim ∧ VReps C W.g W.labs l vs.toList
  | _ => False
noncomputable def LRep (C : Cx) (W : Wd) (h : Heap) (r : Role) : LV → Value → Prop
  | .val a, v => VRep C W.g W.labs a v
  | .own c, v => ∃ a, v = .ref a ∧ W.role a = some r ∧ CRep C W h a c
/-- what a label stands for -/
noncomputable def ORep (C : Cx) (W : Wd) (h : Heap) (n : Nat) (a : Addr) : AO → Prop
  | .cont c => W.role a = some (.cel n) ∧ CRep C W h a c
  | .flds l => W.role a = some (.fld n) ∧ ∃ m, h.Ns a m ∧ (∀ f, getA f l = none → m f = none) ∧ ∀ f lv, getA f l = some lv → ∃ v, m f = some v ∧ LRep C W h (.fown n f) lv v

/-- a def's object in the heap -/
structure FnOk (h : Heap) (fn : Fn) (a : Addr) (o : Obj) (fd : FuncData) : Prop where
  obj : h.get? a = some o
  dat : o.data = .func fd
  body : fd.body = .stmts fn.body
  names : fd.scope.names = fn.names
  kind : fd.scope.kind = .function
  co : fd.scope.isCoroutine = false
  gen : fd.scope.isGenerator = false
  clo : fd.closure = []
  glob : fd.globals = mainGlobals
  blt : fd.builtins = builtinsNs
  code : h.CodeRec fd.code fd.qualname
  bind : ∀ vals : List Value, vals.length = fn.params.length → bindArgs fd ⟨vals, []⟩ = pure (fn.params.zip vals)
/-- a def as it is written -/
structure FnWr (fn : Fn) : Prop where
  nodup : fn.params.Nodup
  par : ∀ x ∈ fn.params, fn.names.lookup x = some .local ∨ fn.names.lookup x = some .cell
  nofree : ∀ x, fn.names.lookup x ≠ some .free
structure StatH (C : Cx) (h : Heap) : Prop where
  nolimit : h.NoLimit
  fn : ∀ c f fn, C.P.find c f = some fn → ∃ a, C.fnA c f = some a ∧ FnOk h fn a (C.fnO a) (C.fnD a)
  ns : h.Ns mainGlobals C.mg
  nb : h.Ns builtinsNs C.mb
/-- what the names of the top mean -/
structure CxOk (C : Cx) : Prop where
  wr : ∀ c f fn, C.P.find c f = some fn → FnWr fn
  fnG : ∀ f fn, C.P.find ⟨#[]⟩ f = some fn → ∃ a, C.fnA ⟨#[]⟩ f = some a ∧ C.mg f = some (.ref a)
  const : ∀ x av, C.P.consts.lookup x = some av → ∃ i t, av = .int i ∧ C.mg x = some (.int i t)
noncomputable def Stat (C : Cx) (g : Gh) : Prop := ∀ h : Heap, (∀ b o, g b = some o → h.get? b = some o) → StatH C h
theorem Stat.mono {C : Cx} {g g' : Gh} (h : Stat C g) (k : ∀ b o, g b = some o → g' b = some o) : Stat C g' := fun h' hk => h h' fun b o e => hk b o (k b o e)

structure Fx where
  A : Around
  env : Env
  frs : List Env
  fn : Bool

noncomputable def Room (A : Around) (n : Nat) : Prop := A.depth + n ≤ 900 ∧ A.units + 4 * n ≤ 7900
structure FxOk (C : Cx) (n : Nat) (X : Fx) (sc : List (Str × NameKind)) : Prop where
  hd : X.A.handled = none
  frames : X.A.frames = some X.frs
  kind : X.env.scope.kind = .function
  loc : ∀ x, sc.lookup x = some .local → X.env.kindOf x = some .local
  cel : ∀ x, (sc.lookup x = some .cell ∨ sc.lookup x = some .free) → (X.env.kindOf x = some .cell ∨ X.env.kindOf x = some .free) ∧ ∃ c, X.env.cells.lookup x = some c
  glob : ∀ x, sc.lookup x = some .globalImplicit → X.env.kindOf x = some .globalImplicit
  fcell : X.fn = true → ∀ x, sc.lookup x = some .cell → X.env.kindOf x = some .cell
  room : Room X.A n
  globals : X.env.globals = mainGlobals
  builtins : X.env.builtins = builtinsNs
  frm : ∃ e r, X.frs = e :: r ∧ e.frame = X.env.frame

theorem FxOk.units {C : Cx} {n : Nat} {X : Fx} {sc : List (Str × NameKind)} (F : FxOk C n X sc) : X.A.units ≤ 8000 := by have := F.room.2; omega

structure Inv (C : Cx) (X : Fx) (W : Wd) (S : S) (s : Shared) : Prop where
  stat : Stat C W.g
  sh : ∃ h tk, s = { C.s0 with heap := h, toks := tk }
  keeps : ∀ b o, W.g b = some o → s.heap.get? b = some o
  apart : ∀ b r, W.role b = some r → W.g b = none ∧ ∃ o, s.heap.get? b = some o ∧ ((∀ q, r ≠ .held q) → ∀ vs, o.data ≠ .fields vs)
  kept : ∀ b o, W.role b = some (.kept o) → ∃ sl, s.heap.get? b = some { o with slots := sl }
  held : ∀ b o, W.role b = some (.held o) → s.heap.get? b = some o
  frs : ∀ e ∈ X.frs, e.scope.kind ≠ .module ∧ ∃ L, e.frame = some L ∧ (W.role L = some .loc ∨ ∃ o, W.role L = some (.kept o))
  rloc : W.role X.env.locals = some .loc
  ns : ∃ m, s.heap.Ns X.env.locals m ∧ ∀ x, X.env.kindOf x = some .local → m x = W.val x
  cells : ∀ x c, X.env.cells.lookup x = some c → (X.fn = true → W.role c = some (.cell x)) ∧ (X.fn = false → ∃ o, W.role c = some (.held o)) ∧ ((X.env.kindOf x = some .cell ∨ X.env.kindOf x = some .free) → s.heap.IsCell c (W.val x))
  vars : ∀ x lv, getA x S.loc = some lv → ∃ v, W.val x = some v ∧ LRep C W s.heap (.own x) lv v
  lab : S.st.length = W.labs.length
  objs : ∀ n o, S.st[n]? = some o → ∃ a, W.labs[n]? = some a ∧ ORep C W s.heap n a o

structure Wd.le (ev : Bool) (W W' : Wd) : Prop where
  g : ∀ b o, W.g b = some o → W'.g b = some o
  labs : ∃ r, W'.labs = W.labs ++ r
  kept : ∀ b o, W.role b = some (.kept o) → W'.role b = some (.kept o)
  held : ∀ b o, W.role b = some (.held o) → W'.role b = some (.held o)
  val : ev = true → W'.val = W.val

theorem Wd.le.refl {ev : Bool} {W : Wd} : W.le ev W := ⟨fun _ _ h => h, ⟨[], (List.append_nil _).symm⟩, fun _ _ h => h, fun _ _ h => h, fun _ => rfl⟩
theorem Wd.le.trans {ev : Bool} {W W' W'' : Wd} (a : W.le ev W') (b : W'.le ev W'') : W.le ev W'' where
  g := fun x o h => b.g x o (a.g x o h)
  labs := by obtain ⟨r, hr⟩ := a.labs; obtain ⟨r', hr'⟩ := b.labs; exact ⟨r ++ r', by rw [hr', hr, List.append_assoc]⟩
  kept := fun x o h => b.kept x o (a.kept x o h)
  held := fun x o h => b.held x o (a.held x o h)
  val := fun h => (b.val h).trans (a.val h)
theorem Wd.le.weak {ev : Bool} {W W' : Wd} (a : W.le ev W') : W.le false W' := ⟨a.g, a.labs, a.kept, a.held, fun h => nomatch h⟩
theorem VRep.le {C : Cx} {ev : Bool} {W W' : Wd} {av : AV} {v : Value} (h : VRep C W.g W.labs av v) (l : W.le ev W') : VRep C W'.g W'.labs av v := h.mono l.g l.labs
theorem VReps.le {C : Cx} {ev : Bool} {W W' : Wd} {av : List AV} {v : List Value} (h : VReps C W.g W.labs av v) (l : W.le ev W') : VReps C W'.g W'.labs av v := h.mono l.g l.labs

noncomputable abbrev Cx.M (C : Cx) : Model := model C.prog C.w

/-- the tree m does what the denotation d says, from this state -/
noncomputable def Snd (C : Cx) (X : Fx) (ev : Bool) {α β : Type} (R : Wd → Heap → β → α → Prop) (m : Sem α) (d : D β) (W : Wd) (S : S) (s : Shared) : Prop :=
  match d S with
  | .stuck => True
  | .ok b S' => wpAny C.M X.A m (fun a s' => ∃ W', W.le ev W' ∧ Inv C X W' S' s' ∧ R W' s'.heap b a) (fun _ _ => False) s
  | .exc c S' => wpAny C.M X.A m (fun _ _ => False) (fun e s' => ∃ W', W.le ev W' ∧ Inv C X W' S' s' ∧ IsTrace C W' s'.heap c e) s

noncomputable abbrev RV (C : Cx) : Wd → Heap → AV → Value → Prop := fun W _ a v => VRep C W.g W.labs a v

section
variable {C : Cx} {X : Fx} {ev : Bool} {α β γ δ : Type} {R : Wd → Heap → β → α → Prop} {R' : Wd → Heap → δ → γ → Prop} {W : Wd} {S : S} {s : Shared}

theorem Snd.pure {a : α} {b : β} (hI : Inv C X W S s) (h : R W s.heap b a) : Snd C X ev R (Pure.pure a) (pur b) W S s := by
  show wpAny _ _ _ _ _ _
  exact wpAny_pure ⟨W, .refl, hI, h⟩

theorem Snd.bind {m : Sem α} {k : α → Sem γ} {d : D β} {f : β → D δ} (h1 : Snd C X ev R m d W S s)
    (h2 : ∀ b a W' S' s', W.le ev W' → Inv C X W' S' s' → R W' s'.heap b a → d S = .ok b S' → Snd C X ev R' (k a) (f b) W' S' s') : Snd C X ev R' (m >>= k) (bnd d f) W S s := by
  unfold Snd bnd at *
  cases hd : d S with
  | stuck => trivial
  | exc c S' =>
    rw [hd] at h1
    exact wpAny_bind (wpAny_mono h1 (fun _ _ x => x.elim) fun _ _ x => x)
  | ok b S' =>
    rw [hd] at h1
    dsimp only at h1 ⊢
    cases hf : f b S' with
    | stuck => trivial
    | exc c S'' =>
      refine wpAny_bind (wpAny_mono h1 (fun a s' ⟨W', l, I, r⟩ => ?_) fun _ _ x => x.elim)
      have := h2 b a W' S' s' l I r hd
      rw [hf] at this
      exact wpAny_mono this (fun _ _ x => x) fun e s'' ⟨W'', l', I', r'⟩ => ⟨W'', l.trans l', I', r'⟩
    | ok c S'' =>
      refine wpAny_bind (wpAny_mono h1 (fun a s' ⟨W', l, I, r⟩ => ?_) fun _ _ x => x.elim)
      have := h2 b a W' S' s' l I r hd
      rw [hf] at this
      exact wpAny_mono this (fun a' s'' ⟨W'', l', I', r'⟩ => ⟨W'', l.trans l', I', r'⟩) fun _ _ x => x

/-- a step of the machine that the denotation does not see -/
theorem Snd.step {m : Sem α} {k : α → Sem γ} {d : D δ} (h1 : wpAny C.M X.A m (fun a s' => ∃ W', W.le ev W' ∧ Inv C X W' S s' ∧ Snd C X ev R' (k a) d W' S s') (fun _ _ => False) s) :
    Snd C X ev R' (m >>= k) d W S s := by
  unfold Snd at *
  cases hd : d S with
  | stuck => trivial
  | exc c S' =>
    rw [hd] at h1
    refine wpAny_bind (wpAny_mono h1 (fun a s' ⟨W', l, I, r⟩ => ?_) fun _ _ x => x.elim)
    exact wpAny_mono r (fun _ _ x => x) fun e s'' ⟨W'', l', I', r'⟩ => ⟨W'', l.trans l', I', r'⟩
  | ok b S' =>
    rw [hd] at h1
    refine wpAny_bind (wpAny_mono h1 (fun a s' ⟨W', l, I, r⟩ => ?_) fun _ _ x => x.elim)
    exact wpAny_mono r (fun a' s'' ⟨W'', l', I', r'⟩ => ⟨W'', l.trans l', I', r'⟩) fun _ _ x => x

theorem Snd.stand {pos : Pos} {k : Unit → Sem γ} {d : D δ} (h : Snd C X ev R' (k ()) d W S s) (hI : Inv C X W S s) : Snd C X ev R' (standAt pos >>= k) d W S s :=
  Snd.step (wpAny_standAt ⟨W, .refl, hI, h⟩)
theorem Snd.holding {m : Sem α} {vs : List Value} {d : D β} (h : Snd C X ev R m d W S s) : Snd C X ev R (holding vs m) d W S s := by
  unfold Snd at *
  cases hd : d S with
  | stuck => trivial
  | exc c S' => rw [hd] at h; exact wpAny_holding h
  | ok b S' => rw [hd] at h; exact wpAny_holding h
theorem Snd.of_eq {m : Sem α} {d d' : D β} (h : Snd C X ev R m d W S s) (e : d' S = d S) : Snd C X ev R m d' W S s := by
  unfold Snd at *; rw [e]; exact h
theorem Snd.opt {m : Sem α} {o : Option β} (h : ∀ b, o = some b → wpAny C.M X.A m (fun a s' => ∃ W', W.le ev W' ∧ Inv C X W' S s' ∧ R W' s'.heap b a) (fun _ _ => False) s) : Snd C X ev R m (opt o) W S s := by
  unfold Snd Mine.opt
  cases o with
  | none => trivial
  | some b => exact h b rfl
end

noncomputable def Gh.put (g : Gh) (a : Addr) (o : Obj) : Gh := fun b => if b = a then some o else g b
theorem Gh.put_self {g : Gh} {a : Addr} {o : Obj} : g.put a o a = some o := if_pos rfl
theorem Gh.put_ne {g : Gh} {a b : Addr} {o : Obj} (h : b ≠ a) : g.put a o b = g b := if_neg h
theorem Gh.put_le {g : Gh} {a : Addr} {o : Obj} (h : g a = none) : ∀ b o', g b = some o' → g.put a o b = some o' := fun b o' e => by
  by_cases hb : b = a
  · subst hb; rw [h] at e; cases e
  · rw [Gh.put_ne hb]; exact e

noncomputable def Wd.trk (W : Wd) (b : Addr) : Prop := (∃ o, W.g b = some o) ∨ ∃ r, W.role b = some r
/-- what is known of the heap h holds at h' -/
noncomputable def Wd.sim (W : Wd) (h h' : Heap) : Prop := ∀ b o, W.trk b → h.get? b = some o → h'.get? b = some o

section
variable {C : Cx} {X : Fx} {W : Wd} {S : S} {s : Shared}
theorem Wd.sim.of_ext {h h' : Heap} (k : ∀ b o, h.get? b = some o → h'.get? b = some o) : W.sim h h' := fun b o _ e => k b o e
theorem Wd.sim.push {h : Heap} {o : Obj} : W.sim h (h.push o) := fun _ _ _ e => Heap.get?_push_of_some _ e
theorem Wd.sim.refl {h : Heap} : W.sim h h := fun _ _ _ e => e
theorem Wd.sim.trans {h h' h'' : Heap} (a : W.sim h h') (b : W.sim h' h'') : W.sim h h'' := fun x o t e => b x o t (a x o t e)

theorem CRep.sim {h h' : Heap} {a : Addr} {c : AV} (x : CRep C W h a c) (k : ∀ o, h.get? a = some o → h'.get? a = some o) : CRep C W h' a c := by
  cases c <;> first | exact x.elim | skip
  obtain ⟨vs, h1, h2, h3⟩ := x
  exact ⟨vs, h1.at k, h2, h3⟩
theorem LRep.sim {h h' : Heap} {r : Role} {lv : LV} {v : Value} (x : LRep C W h r lv v) (k : W.sim h h') : LRep C W h' r lv v := by
  cases lv with
  | val a => exact x
  | own c =>
    obtain ⟨a, h1, h2, h3⟩ := x
    exact ⟨a, h1, h2, h3.sim fun o e => k a o (.inr ⟨_, h2⟩) e⟩

theorem ORep.sim {h h' : Heap} {n : Nat} {a : Addr} {o : AO} (x : ORep C W h n a o) (k : W.sim h h') : ORep C W h' n a o := by
  cases o with
  | cont c => exact ⟨x.1, x.2.sim fun o e => k a o (.inr ⟨_, x.1⟩) e⟩
  | flds l =>
    obtain ⟨h1, m, h2, h3, h4⟩ := x
    exact ⟨h1, m, h2.at' fun o e => k a o (.inr ⟨_, h1⟩) e, h3, fun f lv e => let ⟨v, q1, q2⟩ := h4 f lv e; ⟨v, q1, q2.sim k⟩⟩
theorem CRep.grow {W' : Wd} {h : Heap} {a : Addr} {c : AV} (x : CRep C W h a c) (hg : ∀ b o, W.g b = some o → W'.g b = some o) (hl : ∃ r, W'.labs = W.labs ++ r) : CRep C W' h a c := by
  cases c <;> first | exact x.elim | skip
  obtain ⟨vs, h1, h2, h3⟩ := x
  exact ⟨vs, h1, h2, h3.mono hg hl⟩
theorem LRep.grow {W' : Wd} {h : Heap} {r : Role} {lv : LV} {v : Value} (x : LRep C W h r lv v) (hg : ∀ b o, W.g b = some o → W'.g b = some o) (hl : ∃ r, W'.labs = W.labs ++ r) (hr : ∀ a, W.role a = some r → W'.role a = some r) : LRep C W' h r lv v := by
  cases lv with
  | val a => exact VRep.mono hg hl x
  | own c =>
    obtain ⟨a, h1, h2, h3⟩ := x
    exact ⟨a, h1, hr a h2, h3.grow hg hl⟩
theorem ORep.grow {W' : Wd} {h : Heap} {n : Nat} {a : Addr} {o : AO} (x : ORep C W h n a o) (hg : ∀ b o, W.g b = some o → W'.g b = some o) (hl : ∃ r, W'.labs = W.labs ++ r)
    (hr : ∀ a r, W.role a = some r → (r = .cel n ∨ r = .fld n ∨ ∃ f, r = .fown n f) → W'.role a = some r) : ORep C W' h n a o := by
  cases o with
  | cont c => exact ⟨hr _ _ x.1 (.inl rfl), x.2.grow hg hl⟩
  | flds l =>
    obtain ⟨h1, m, h2, h3, h4⟩ := x
    exact ⟨hr _ _ h1 (.inr (.inl rfl)), m, h2, h3, fun f lv e => let ⟨v, q1, q2⟩ := h4 f lv e; ⟨v, q1, q2.grow hg hl fun a q => hr a _ q (.inr (.inr ⟨f, rfl⟩))⟩⟩

theorem Inv.heap (I : Inv C X W S s) {h' : Heap} {tk : Nat} (k : W.sim s.heap h') : Inv C X W S { s with heap := h', toks := tk } where
  stat := I.stat
  sh := by obtain ⟨h, t, e⟩ := I.sh; exact ⟨h', tk, by rw [e]⟩
  keeps := fun b o e => k b o (.inl ⟨o, e⟩) (I.keeps b o e)
  apart := fun b r e => ⟨(I.apart b r e).1, let ⟨o, h1, h2⟩ := (I.apart b r e).2; ⟨o, k b o (.inr ⟨r, e⟩) h1, h2⟩⟩
  kept := fun b o e => let ⟨sl, h1⟩ := I.kept b o e; ⟨sl, k b _ (.inr ⟨_, e⟩) h1⟩
  held := fun b o e => k b _ (.inr ⟨_, e⟩) (I.held b o e)
  frs := I.frs
  rloc := I.rloc
  ns := let ⟨m, h1, h2⟩ := I.ns; ⟨m, h1.at' fun o e => k _ o (.inr ⟨_, I.rloc⟩) e, h2⟩
  cells := fun x c e => let ⟨h1, h2, h3⟩ := I.cells x c e; ⟨h1, h2, fun q => let ⟨o, q1, q2⟩ := h3 q; ⟨o, k _ o (.inr (by cases hx : X.fn with | true => exact ⟨_, h1 hx⟩ | false => exact let ⟨_, y⟩ := h2 hx; ⟨_, y⟩)) q1, q2⟩⟩
  vars := fun x lv e => let ⟨v, h1, h2⟩ := I.vars x lv e; ⟨v, h1, h2.sim k⟩
  lab := I.lab
  objs := fun n o e => let ⟨a, h1, h2⟩ := I.objs n o e; ⟨a, h1, h2.sim k⟩
theorem Inv.toks (I : Inv C X W S s) {tk : Nat} : Inv C X W S { s with toks := tk } := I.heap (h' := s.heap) .refl

theorem Inv.fresh (I : Inv C X W S s) {a : Addr} (h : s.heap.get? a = none) : W.role a = none ∧ W.g a = none := by
  constructor
  · cases e : W.role a with
    | none => rfl
    | some r => obtain ⟨o, h1, _⟩ := (I.apart a r e).2; rw [h] at h1; cases h1
  · cases e : W.g a with
    | none => rfl
    | some o => rw [I.keeps a o e] at h; cases h
theorem get?_size {h : Heap} : h.get? h.objs.size = none := by
  cases e : h.get? h.objs.size with
  | none => rfl
  | some o => exact absurd (Heap.lt_size e) (Nat.lt_irrefl _)

theorem CRep.add {a b : Addr} {o : Obj} {h : Heap} {c : AV} (hn : W.g a = none) (x : CRep C W h b c) : CRep C { W with g := W.g.put a o } h b c := by
  cases c <;> first | exact x.elim | skip
  obtain ⟨vs, h1, h2, h3⟩ := x
  exact ⟨vs, h1, h2, h3.mono (Gh.put_le hn) ⟨[], (List.append_nil _).symm⟩⟩
/-- an object that nothing tracks is taken among those that stay -/
theorem Inv.add (I : Inv C X W S s) {a : Addr} {o : Obj} (ha : s.heap.get? a = some o) (hn : W.g a = none) (hr : W.role a = none) :
    Inv C X { W with g := W.g.put a o } S s where
  stat := I.stat.mono (Gh.put_le hn)
  sh := I.sh
  keeps := fun b o' e => by
    have e' : W.g.put a o b = some o' := e
    by_cases hb : b = a
    · subst hb; rw [Gh.put_self] at e'; cases e'; exact ha
    · rw [Gh.put_ne hb] at e'; exact I.keeps b o' e'
  apart := fun b r e => ⟨by
    show W.g.put a o b = none
    rw [Gh.put_ne (fun q => by rw [q] at e; rw [show ({ W with g := W.g.put a o } : Wd).role a = W.role a from rfl, hr] at e; cases e)]
    exact (I.apart b r e).1, (I.apart b r e).2⟩
  kept := I.kept
  held := I.held
  frs := I.frs
  rloc := I.rloc
  ns := I.ns
  cells := I.cells
  vars := fun x lv e => by
    obtain ⟨v, h1, h2⟩ := I.vars x lv e
    refine ⟨v, h1, ?_⟩
    cases lv with
    | val a => exact VRep.mono (Gh.put_le hn) ⟨[], (List.append_nil _).symm⟩ h2
    | own c => obtain ⟨b, q1, q2, q3⟩ := h2; exact ⟨b, q1, q2, q3.add hn⟩
  lab := I.lab
  objs := fun n o' e => let ⟨a', h1, h2⟩ := I.objs n o' e; ⟨a', h1, h2.grow (W' := { W with g := W.g.put a o }) (Gh.put_le hn) ⟨[], (List.append_nil _).symm⟩ fun _ _ q _ => q⟩
theorem Wd.le.add {ev : Bool} {a : Addr} {o : Obj} (hn : W.g a = none) : W.le ev { W with g := W.g.put a o } := ⟨Gh.put_le hn, ⟨[], (List.append_nil _).symm⟩, fun _ _ h => h, fun _ _ h => h, fun _ => rfl⟩
end

theorem getA_setA {α : Type} {x : Str} {v : α} : ∀ {l : List (Str × α)}, getA x (setA x v l) = some v
  | [] => by simp [setA, getA]
  | (y, w) :: r => by
    unfold setA
    by_cases h : y = x
    · rw [if_pos h]; simp [getA]
    · rw [if_neg h]; unfold getA; rw [if_neg h]; exact getA_setA
theorem getA_setA_ne {α : Type} {x y : Str} {v : α} (hne : y ≠ x) : ∀ {l : List (Str × α)}, getA y (setA x v l) = getA y l
  | [] => by simp [setA, getA, Ne.symm hne]
  | (z, w) :: r => by
    unfold setA
    by_cases h : z = x
    · rw [if_pos h]; subst h; unfold getA; rw [if_neg (Ne.symm hne), if_neg (Ne.symm hne)]
    · rw [if_neg h]
      unfold getA
      by_cases hz : z = y
      · rw [if_pos hz, if_pos hz]
      · rw [if_neg hz, if_neg hz]; exact getA_setA_ne hne

/-- an address is no longer tracked by a role, and stays for good -/
noncomputable def Wd.settle (W : Wd) (a : Addr) (o : Obj) : Wd := { W with g := W.g.put a o, role := fun b => if b = a then none else W.role b }
section
variable {C : Cx} {X : Fx} {W : Wd} {S : S} {s : Shared}
theorem settle_role {a b : Addr} {o : Obj} {r : Role} (h : W.role b = some r) (hn : b ≠ a) : (W.settle a o).role b = some r := by show (if b = a then none else W.role b) = _; rw [if_neg hn]; exact h
theorem settle_role' {a b : Addr} {o : Obj} {r : Role} (h : (W.settle a o).role b = some r) : b ≠ a ∧ W.role b = some r := by
  by_cases hb : b = a
  · exact absurd h (by show ¬ (if b = a then none else W.role b) = _; rw [if_pos hb]; exact fun q => nomatch q)
  · exact ⟨hb, by have h' : (if b = a then none else W.role b) = some r := h; rwa [if_neg hb] at h'⟩
theorem CRep.settle {a b : Addr} {o : Obj} {h : Heap} {c : AV} (hn : W.g a = none) (x : CRep C W h b c) : CRep C (W.settle a o) h b c := by
  cases c <;> first | exact x.elim | skip
  obtain ⟨vs, h1, h2, h3⟩ := x
  exact ⟨vs, h1, h2, h3.mono (Gh.put_le hn) ⟨[], (List.append_nil _).symm⟩⟩
theorem role_ne {a b : Addr} {r r' : Role} (h : W.role a = some r) (h' : W.role b = some r') (hr : r ≠ r') : a ≠ b := fun e => by
  subst e; rw [h] at h'; exact hr (Option.some.inj h')
theorem CRep.obj {h : Heap} {a : Addr} {c : AV} (x : CRep C W h a c) : ∃ o, h.get? a = some o ∧ VRep C (W.settle a o).g (W.settle a o).labs c (.ref a) ∨ W.g a ≠ none := by
  cases c <;> first | exact x.elim | skip
  rename_i l
  obtain ⟨vs, ⟨n, h1⟩, h2, h3⟩ := x
  by_cases hg : W.g a = none
  · refine ⟨_, .inl ⟨h1, ?_⟩⟩
    show VRep C _ _ (.lst l) _
    simp only [VRep]
    exact ⟨a, vs, rfl, ⟨n, Gh.put_self⟩, h2, h3.mono (Gh.put_le hg) ⟨[], (List.append_nil _).symm⟩⟩
  · exact ⟨default, .inr hg⟩

/-- a variable lets go what it owns -/
theorem Inv.letgo (I : Inv C X W S s) {x : Str} {c : AV} (hx : getA x S.loc = some (.own c)) :
    ∃ W' v, W.le true W' ∧ W.val x = some v ∧ Inv C X W' { S with loc := setA x (.val c) S.loc } s ∧ VRep C W'.g W'.labs c v := by
  obtain ⟨v, hv, a, rfl, hr, hc⟩ := I.vars x _ hx
  have hg := (I.apart a _ hr).1
  obtain ⟨o, ⟨ho, hrep⟩ | q⟩ := hc.obj
  case inr => exact absurd hg q
  refine ⟨W.settle a o, .ref a, ⟨Gh.put_le hg, ⟨[], (List.append_nil _).symm⟩, fun b o' h => settle_role h (role_ne h hr (fun q => nomatch q)), fun b o' h => settle_role h (role_ne h hr (fun q => nomatch q)), fun _ => rfl⟩, hv, ?_, hrep⟩
  exact {
    stat := I.stat.mono (Gh.put_le hg)
    sh := I.sh
    keeps := fun b o' e => by
      have e' : W.g.put a o b = some o' := e
      by_cases hb : b = a
      · subst hb; rw [Gh.put_self] at e'; cases e'; exact ho
      · rw [Gh.put_ne hb] at e'; exact I.keeps b o' e'
    apart := fun b r e => by
      obtain ⟨h1, h2⟩ := settle_role' e
      exact ⟨by show W.g.put a o b = none; rw [Gh.put_ne h1]; exact (I.apart b r h2).1, (I.apart b r h2).2⟩
    kept := fun b o' e => I.kept b o' (settle_role' e).2
    held := fun b o' e => I.held b o' (settle_role' e).2
    frs := fun e he => by
      obtain ⟨h1, L, h2, h3⟩ := I.frs e he
      exact ⟨h1, L, h2, h3.imp (fun q => settle_role q (role_ne q hr (fun q => nomatch q))) fun ⟨o', q⟩ => ⟨o', settle_role q (role_ne q hr (fun q => nomatch q))⟩⟩
    rloc := settle_role I.rloc (role_ne I.rloc hr (fun q => nomatch q))
    ns := I.ns
    cells := fun y c' e => by
      obtain ⟨h1, h2, h3⟩ := I.cells y c' e
      exact ⟨fun q => settle_role (h1 q) (role_ne (h1 q) hr (fun q => nomatch q)), fun q => let ⟨o', y⟩ := h2 q; ⟨o', settle_role y (role_ne y hr (fun q => nomatch q))⟩, h3⟩
    vars := fun y lv e => by
      by_cases hy : y = x
      · subst hy
        rw [show getA y (setA y (LV.val c) S.loc) = some (.val c) from getA_setA] at e
        cases e
        exact ⟨_, hv, hrep⟩
      · rw [show getA y (setA x (LV.val c) S.loc) = getA y S.loc from getA_setA_ne hy] at e
        obtain ⟨v', h1, h2⟩ := I.vars y lv e
        refine ⟨v', h1, ?_⟩
        cases lv with
        | val a' => exact VRep.mono (Gh.put_le hg) ⟨[], (List.append_nil _).symm⟩ h2
        | own c' =>
          obtain ⟨b, q1, q2, q3⟩ := h2
          exact ⟨b, q1, settle_role q2 (role_ne q2 hr (fun q => hy (by cases q; rfl))), q3.settle hg⟩
    lab := I.lab
    objs := fun n o' e => by
      obtain ⟨a', h1, h2⟩ := I.objs n o' e
      refine ⟨a', h1, h2.grow (Gh.put_le hg) ⟨[], (List.append_nil _).symm⟩ fun b r q hk => settle_role q (role_ne q hr ?_)⟩
      rintro rfl
      rcases hk with q | q | ⟨_, q⟩ <;> cases q }
end
end Mine
end
section
set_option autoImplicit false
namespace Mine
open PySem PyProof.Rows

/-- the evaluator's context is the program's -/
structure CtxOk (C : Cx) (T : Ctx) : Prop where
  const : T.const = fun x => C.P.consts.lookup x

noncomputable def SndE (C : Cx) (n : Nat) (sc : List (Str × NameKind)) (e : Expr) (d : D AV) : Prop :=
  ∀ (X : Fx) (W : Wd) (S : S) (s : Shared), FxOk C n X sc → Inv C X W S s → Snd C X true (RV C) (eval e X.env) d W S s

section
variable {C : Cx} {n : Nat} {T : Ctx} {sc : List (Str × NameKind)}

theorem snd_const {c : Const} {k : Nat} {p : Pos} : SndE C n sc (.Constant c k p) (dConst c) := by
  intro X W S s F I
  cases c <;> first | trivial | skip
  · exact wpAny_Constant_none ⟨W, .refl, I, rfl⟩
  · exact wpAny_Constant_bool ⟨W, .refl, I, rfl⟩
  · exact wpAny_Constant_int ⟨W, .refl, I.toks, ⟨_, rfl⟩⟩
  · rename_i x
    show Snd _ _ _ _ _ (strCheck x) _ _ _
    unfold strCheck
    by_cases h : PyData.strOk x = true ∧ x.length ≤ sizeLine
    · rw [if_pos h]
      exact wpAny_Constant_str ⟨W, .refl, I.toks, ⟨h.1, h.2, _, rfl⟩⟩
    · rw [if_neg h]; trivial

theorem okNm_debug {x : Str} (h : okNm x = true) : (x == ("__debug__" : Str)) = false := by
  unfold okNm at h; rw [Bool.and_eq_true] at h; simpa using h.1
theorem okNm_classdict {x : Str} (h : okNm x = true) : (x == ("__classdict__" : Str)) = false := by
  unfold okNm at h; rw [Bool.and_eq_true] at h; simpa using h.2
theorem isLoc_ok {x : Str} (h : isLoc sc x = true) : okNm x = true := (Bool.and_eq_true_iff.mp h).2
theorem isGlob_ok {x : Str} (h : isGlob sc x = true) : okNm x = true := (Bool.and_eq_true_iff.mp h).2
theorem isLoc_cases {x : Str} (h : isLoc sc x = true) : sc.lookup x = some .local ∨ (sc.lookup x = some .cell ∨ sc.lookup x = some .free) := by
  have hl := (Bool.and_eq_true_iff.mp h).1
  revert hl; cases sc.lookup x with
  | none => intro h; cases h
  | some k => cases k <;> intro h <;> first | exact .inl rfl | exact .inr (.inl rfl) | exact .inr (.inr rfl) | cases h
theorem isGlob_kind {x : Str} (h : isGlob sc x = true) : sc.lookup x = some .globalImplicit := by simpa using (Bool.and_eq_true_iff.mp h).1

/-- a local name's value in the machine -/
theorem wp_local {X : Fx} {W : Wd} {S : S} {s : Shared} {x : Str} {v : Value} {Q : Value → Shared → Prop} {E : Value → Shared → Prop} (F : FxOk C n X sc) (I : Inv C X W S s) (hl : isLoc sc x = true) (hv : W.val x = some v) (h : Q v s) :
    wpAny C.M X.A (loadName X.env x) Q E s := by
  rcases isLoc_cases hl with key | key
  · obtain ⟨m, h1, h2⟩ := I.ns
    have hk := F.loc x key
    exact wpAny_loadName_local F.kind hk h1 ((h2 x hk).trans hv) h
  · obtain ⟨hk, c, hc⟩ := F.cel x key
    have hcell := (I.cells x c hc).2.2 hk
    rw [hv] at hcell
    rcases hk with hk | hk
    · exact wpAny_loadName_cell F.kind hk hc hcell h
    · exact wpAny_loadName_free F.kind hk hc hcell h (okNm_classdict (isLoc_ok hl))

theorem snd_rdLoc {X : Fx} {W : Wd} {S : S} {s : Shared} {x : Str} (F : FxOk C n X sc) (I : Inv C X W S s) (hl : isLoc sc x = true) : Snd C X true (RV C) (loadName X.env x) (rdLoc x) W S s := by
  unfold Snd rdLoc
  cases hx : getA x S.loc with
  | none => trivial
  | some lv =>
    cases lv with
    | val a =>
      obtain ⟨v, h1, h2⟩ := I.vars x _ hx
      exact wp_local F I hl h1 ⟨W, .refl, I, h2⟩
    | own c =>
      obtain ⟨W', v, h1, h2, h3, h4⟩ := I.letgo hx
      exact wp_local F I hl h2 ⟨W', h1, h3, h4⟩

theorem wp_global {X : Fx} {s : Shared} {x : Str} {Q : Value → Shared → Prop} {E : Value → Shared → Prop} (F : FxOk C n X sc) (hg : isGlob sc x = true) (h : wpAny C.M X.A (loadGlobal X.env x) Q E s) :
    wpAny C.M X.A (loadName X.env x) Q E s := by
  unfold loadName
  simp only [Env.blockKind, F.kind, F.glob x (isGlob_kind hg), ScopeKind.isAnnotationScope, Bool.false_and, Bool.false_eq_true, if_false]
  exact h
theorem snd_const_glob (K : CxOk C) (hT : CtxOk C T) {X : Fx} {W : Wd} {S : S} {s : Shared} {x : Str} (F : FxOk C n X sc) (I : Inv C X W S s) (hg : isGlob sc x = true) : Snd C X true (RV C) (loadName X.env x) (opt (T.const x)) W S s := by
  refine Snd.opt fun b hb => ?_
  rw [hT.const] at hb
  obtain ⟨i, t, rfl, hm⟩ := K.const x b hb
  have hst := I.stat s.heap I.keeps
  exact wp_global F hg (Calls.loadGlobal_global (by rw [F.globals]; exact hst.ns) hm ⟨W, .refl, I, ⟨_, rfl⟩⟩)
theorem snd_name (K : CxOk C) (hT : CtxOk C T) {x : Str} {p : Pos} : SndE C n sc (.Name x p) (dName T x sc) := by
  intro X W S s F I
  unfold dName
  by_cases hl : isLoc sc x = true
  · rw [if_pos hl, eval_Name _ _ _ (okNm_debug (isLoc_ok hl))]
    exact Snd.stand (snd_rdLoc F I hl) I
  · rw [if_neg hl]
    by_cases hg : isGlob sc x = true
    · rw [if_pos hg, eval_Name _ _ _ (okNm_debug (isGlob_ok hg))]
      exact Snd.stand (snd_const_glob K hT F I hg) I
    · rw [if_neg hg]; trivial


theorem VReps.length {g : Gh} {labs : List Addr} : ∀ {l : List AV} {vs : List Value}, VReps C g labs l vs → vs.length = l.length
  | [], vs, h => by simp only [VReps] at h; subst h; rfl
  | x :: r, vs, h => by
    simp only [VReps] at h
    obtain ⟨v, vs', rfl, _, h3⟩ := h
    simp only [List.length_cons, VReps.length h3]
theorem VReps.append {g : Gh} {labs : List Addr} : ∀ {l l' : List AV} {vs vs' : List Value}, VReps C g labs l vs → VReps C g labs l' vs' → VReps C g labs (l ++ l') (vs ++ vs')
  | [], l', vs, vs', h, h' => by simp only [VReps] at h; subst h; exact h'
  | x :: r, l', vs, vs', h, h' => by
    simp only [VReps] at h
    obtain ⟨v, vs'', rfl, h2, h3⟩ := h
    show VReps C g labs (x :: (r ++ l')) (v :: (vs'' ++ vs'))
    simp only [VReps]
    exact ⟨v, _, rfl, h2, VReps.append h3 h'⟩
theorem VReps.get {g : Gh} {labs : List Addr} : ∀ {l : List AV} {vs : List Value} {i : Nat} {a : AV}, VReps C g labs l vs → l[i]? = some a → ∃ v, vs[i]? = some v ∧ VRep C g labs a v
  | [], vs, i, a, h, e => by simp at e
  | x :: r, vs, i, a, h, e => by
    simp only [VReps] at h
    obtain ⟨v, vs', rfl, h2, h3⟩ := h
    cases i with
    | zero => simp at e; subst e; exact ⟨v, rfl, h2⟩
    | succ i => simp at e; obtain ⟨v', q1, q2⟩ := VReps.get h3 e; exact ⟨v', by simpa using q1, q2⟩
theorem VReps.take {g : Gh} {labs : List Addr} : ∀ {l : List AV} {vs : List Value} (n : Nat), VReps C g labs l vs → VReps C g labs (l.take n) (vs.take n)
  | [], vs, n, h => by simp only [VReps] at h; subst h; simp only [List.take_nil, VReps]
  | x :: r, vs, n, h => by
    simp only [VReps] at h
    obtain ⟨v, vs', rfl, h2, h3⟩ := h
    cases n with
    | zero => simp only [List.take_zero, VReps]
    | succ n => simp only [List.take_succ_cons, VReps]; exact ⟨v, _, rfl, h2, VReps.take n h3⟩
theorem VReps.drop {g : Gh} {labs : List Addr} : ∀ {l : List AV} {vs : List Value} (n : Nat), VReps C g labs l vs → VReps C g labs (l.drop n) (vs.drop n)
  | [], vs, n, h => by simp only [VReps] at h; subst h; simp only [List.drop_nil, VReps]
  | x :: r, vs, n, h => by
    cases n with
    | zero => exact h
    | succ n =>
      simp only [VReps] at h
      obtain ⟨v, vs', rfl, h2, h3⟩ := h
      exact VReps.drop n h3
theorem VReps.nil {g : Gh} {labs : List Addr} : VReps C g labs [] [] := by simp only [VReps]
theorem VReps.cons {g : Gh} {labs : List Addr} {a : AV} {v : Value} {l : List AV} {vs : List Value} (h : VRep C g labs a v) (hr : VReps C g labs l vs) : VReps C g labs (a :: l) (v :: vs) := by
  simp only [VReps]; exact ⟨v, vs, rfl, h, hr⟩

section
variable {X : Fx} {W : Wd} {S : S} {s : Shared}
/-- a new tuple, a new list -/
theorem Inv.newTup {l : List AV} {vs : Array Value} {h' : Heap} {tk n k : Nat} (I : Inv C X W S s) (hl : vs.size ≤ lim) (hv : VReps C W.g W.labs l vs.toList)
    (hsim : W.sim s.heap h') (hnew : s.heap.get? n = none) (hobj : h'.get? n = some { cls := .type "tuple", data := .seq vs k }) :
    ∃ W', W.le true W' ∧ Inv C X W' S { s with heap := h', toks := tk } ∧ VRep C W'.g W'.labs (.tup l) (.ref n) := by
  obtain ⟨hr, hg⟩ := I.fresh hnew
  refine ⟨_, .add hg, (I.heap hsim).add hobj hg hr, ?_⟩
  simp only [VRep]
  exact ⟨n, vs, rfl, ⟨k, Gh.put_self⟩, hl, hv.mono (Gh.put_le hg) ⟨[], (List.append_nil _).symm⟩⟩
theorem Inv.newLst {l : List AV} {vs : Array Value} {h' : Heap} {tk n k : Nat} (I : Inv C X W S s) (hl : vs.size ≤ lim) (hv : VReps C W.g W.labs l vs.toList)
    (hsim : W.sim s.heap h') (hnew : s.heap.get? n = none) (hobj : h'.get? n = some { cls := .type "list", data := .seq vs k }) :
    ∃ W', W.le true W' ∧ Inv C X W' S { s with heap := h', toks := tk } ∧ VRep C W'.g W'.labs (.lst l) (.ref n) := by
  obtain ⟨hr, hg⟩ := I.fresh hnew
  refine ⟨_, .add hg, (I.heap hsim).add hobj hg hr, ?_⟩
  simp only [VRep]
  exact ⟨n, vs, rfl, ⟨k, Gh.put_self⟩, hl, hv.mono (Gh.put_le hg) ⟨[], (List.append_nil _).symm⟩⟩

theorem smallI_spec {x : Int} (h : smallI x = true) : x.natAbs < 9223372036854775808 := by simpa [smallI] using h
theorem bits_small {x : Int} (h : smallI x = true) : Builtin.Int.intBits x ≤ 64 := by
  have h' := smallI_spec h
  unfold Builtin.Int.intBits
  split
  · exact Nat.zero_le _
  · rename_i hx
    have h0 : x.natAbs ≠ 0 := fun q => hx (by simpa using q)
    have : x.natAbs.log2 < 63 := (Nat.log2_lt h0).mpr (by omega)
    omega
theorem strOk_append {a b : Str} (h1 : PyData.strOk a = true) (h2 : PyData.strOk b = true) : PyData.strOk (a ++ b) = true := by
  show ((a.cps ++ b.cps).all _) = true
  rw [Array.all_append]
  exact Bool.and_eq_true_iff.mpr ⟨h1, h2⟩

noncomputable abbrev Pst (C : Cx) (X : Fx) (W : Wd) (S : Mine.S) (c : AV) : Value → Shared → Prop := fun v s' => ∃ W', W.le true W' ∧ Inv C X W' S s' ∧ VRep C W'.g W'.labs c v

theorem wp_addV {a b c : AV} {va vb : Value} {E : Value → Shared → Prop} (I : Inv C X W S s) (ha : VRep C W.g W.labs a va) (hb : VRep C W.g W.labs b vb) (h : addV a b = some c) :
    wpAny C.M X.A (binaryOp .Add va vb) (Pst C X W S c) E s := by
  unfold addV at h
  split at h
  · cases h
    simp only [VRep] at ha hb
    obtain ⟨t, rfl⟩ := ha; obtain ⟨u, rfl⟩ := hb
    exact add_int ⟨W, .refl, I.toks, by simp only [VRep]; exact ⟨_, rfl⟩⟩
  · rename_i x y
    unfold mkSt at h
    split at h
    · rename_i hsz
      cases h
      simp only [VRep] at ha hb
      obtain ⟨h1, h2, t, rfl⟩ := ha; obtain ⟨h3, h4, u, rfl⟩ := hb
      exact add_str (fun t' tk => ⟨W, .refl, I.toks, by simp only [VRep]; exact ⟨strOk_append h1 h3, hsz, _, rfl⟩⟩) (by rw [← Str.length_append]; exact hsz)
    · cases h
  · rename_i x y
    unfold mkLst at h
    split at h
    · rename_i hsz
      cases h
      simp only [VRep] at ha hb
      obtain ⟨p, vs, rfl, hp, hps, hv⟩ := ha; obtain ⟨q, ws, rfl, hq, hqs, hw⟩ := hb
      obtain ⟨n, hp⟩ := hp
      obtain ⟨m, hq⟩ := hq
      have hlen : vs.size + ws.size ≤ sizeLine := by
        have h1 := hv.length; have h2 := hw.length
        rw [Array.length_toList] at h1 h2
        rw [h1, h2, ← List.length_append]; exact hsz
      refine concat_meets ⟨_, I.keeps _ _ hp, rfl⟩ ⟨_, I.keeps _ _ hq, rfl⟩ noFill_list_add seq_list_add PySem.F.slot_list_add PySem.F.entry_list_add (PySem.F.args_list_add_2 _ _)
        (list_addW p q vs ws n m none none #[] #[] hlen) ⟨I.keeps _ _ hp, I.keeps _ _ hq, ?_⟩
      refine I.newLst (vs := vs ++ ws) (by rw [Array.size_append]; exact hlen) ?_ .push get?_size (Heap.get?_push_size _ rfl)
      rw [Array.toList_append]; exact hv.append hw
    · cases h
  · rename_i x y
    unfold mkTup at h
    split at h
    · rename_i hsz
      cases h
      have ha' := ha; have hb' := hb
      simp only [VRep] at ha hb
      obtain ⟨p, vs, rfl, hp, hps, hv⟩ := ha; obtain ⟨q, ws, rfl, hq, hqs, hw⟩ := hb
      obtain ⟨n, hp⟩ := hp
      obtain ⟨m, hq⟩ := hq
      have e1 := hv.length
      have e2 := hw.length
      rw [Array.length_toList] at e1 e2
      have hlen : vs.size + ws.size ≤ sizeLine := by rw [e1, e2, ← List.length_append]; exact hsz
      by_cases c0 : vs.isEmpty = true
      · have hx : x = [] := List.length_eq_zero_iff.mp (by rw [← e1]; simpa using c0)
        subst hx
        exact concat_meets ⟨_, I.keeps _ _ hp, rfl⟩ ⟨_, I.keeps _ _ hq, rfl⟩ noFill_tuple_add seq_tuple_add PySem.F.slot_tuple_add PySem.F.entry_tuple_add (PySem.F.args_tuple_add_2 _ _)
          (AutoSeq1.tuple___add___tuple_tuple_0 p vs n q ws m c0) ⟨I.keeps _ _ hp, I.keeps _ _ hq, W, .refl, I, hb'⟩
      · by_cases c1 : ws.isEmpty = true
        · have hy : y = [] := List.length_eq_zero_iff.mp (by rw [← e2]; simpa using c1)
          subst hy
          exact concat_meets ⟨_, I.keeps _ _ hp, rfl⟩ ⟨_, I.keeps _ _ hq, rfl⟩ noFill_tuple_add seq_tuple_add PySem.F.slot_tuple_add PySem.F.entry_tuple_add (PySem.F.args_tuple_add_2 _ _)
            (AutoSeq1.tuple___add___tuple_tuple_1 p vs n q ws m c0 c1) ⟨I.keeps _ _ hp, I.keeps _ _ hq, W, .refl, I, by rw [List.append_nil]; exact ha'⟩
        · refine P.add_tuple (I.keeps _ _ hp) (I.keeps _ _ hq) c0 c1 ?_ hlen
          refine I.newTup (vs := vs ++ ws) (by rw [Array.size_append]; exact hlen) ?_ .push get?_size (Heap.get?_push_size _ rfl)
          rw [Array.toList_append]; exact hv.append hw
    · cases h
  · cases h

theorem repL_reps {g : Gh} {labs : List Addr} {x : AV} {v : Value} (h : VRep C g labs x v) : ∀ (n : Nat) (acc : Array Value) (l : List AV), VReps C g labs l acc.toList →
    VReps C g labs (l ++ repL [x] n) (List.foldl (fun x1 x2 => x1 ++ x2) acc (List.replicate n #[v])).toList
  | 0, acc, l, ha => by simpa [repL] using ha
  | n + 1, acc, l, ha => by
    rw [List.replicate_succ, List.foldl_cons]
    have := repL_reps h n (acc ++ #[v]) (l ++ [x]) (by rw [Array.toList_append]; exact ha.append (VReps.cons h .nil))
    simpa [repL] using this

theorem repL_length {x : AV} : ∀ n, (repL [x] n).length = n
  | 0 => rfl
  | n + 1 => by show (x :: repL [x] n).length = _; rw [List.length_cons, repL_length n]
theorem wp_binV {op : Operator} {a b c : AV} {va vb : Value} {E : Value → Shared → Prop} (I : Inv C X W S s) (ha : VRep C W.g W.labs a va) (hb : VRep C W.g W.labs b vb) (h : binV op a b = some c) :
    wpAny C.M X.A (binaryOp op va vb) (Pst C X W S c) E s := by
  unfold binV at h
  cases op <;> dsimp only at h <;> first | exact wp_addV I ha hb h | (cases h; done) | skip
  · split at h
    · cases h
      simp only [VRep] at ha hb
      obtain ⟨t, rfl⟩ := ha; obtain ⟨u, rfl⟩ := hb
      exact sub_int' ⟨W, .refl, I.toks, by simp only [VRep]; exact ⟨_, rfl⟩⟩
    · cases h
  · split at h
    · rename_i x y
      split at h
      · rename_i hs
        cases h
        simp only [VRep] at ha hb
        obtain ⟨t, rfl⟩ := ha; obtain ⟨u, rfl⟩ := hb
        refine PyProof.Rows.mul_int ⟨W, .refl, I.toks, by simp only [VRep]; exact ⟨_, rfl⟩⟩ ?_
        rcases Bool.or_eq_true_iff.mp hs with q | q
        · exact IntMulOk.of_left (bits_small q)
        · exact IntMulOk.of_right (bits_small q)
      · cases h
    · rename_i l n
      split at h
      · rename_i x
        split at h
        · rename_i hn
          cases h
          simp only [VRep] at ha hb
          obtain ⟨p, vs, rfl, ⟨k, hp⟩, hps, hv⟩ := ha; obtain ⟨u, rfl⟩ := hb
          simp only [VReps] at hv
          obtain ⟨v, vs', hvs, hx, rfl⟩ := hv
          have hvs' : vs = #[v] := by rw [← Array.toArray_toList (xs := vs), hvs]
          subst hvs'
          have hl := I.keeps _ _ hp
          have hsm := smallI_spec hn.1
          have hsz := hn.2
          refine wpAny_binaryOp_repeat_ref (T := "list") (U := "int") (by decide) ⟨_, hl, rfl⟩ (fun s' => typeIs_int s' n u) noFill_list_mul F.fills_int_mul F.slot_int_rmul repeat_list F.slot_int_index.lookup
            (call_meets F.slot_int_rmul (typeIs_int s n u) F.entry_int_rmul (F.args_int_rmul_2 _ _) (int___rmul___int_list n u p #[v] k)
              ⟨hl, rfl, ⟨_, hl, rfl⟩, call_meets F.slot_list_mul ⟨_, hl, rfl⟩ F.entry_list_mul (F.args_list_mul_2 _ _)
                (AutoListH.list___mul___list_int_3 p #[v] k n u (by simp [Builtin.List.listFitsIndex]; omega) (by have hq : sizeLine = 16777216 := rfl; simp; omega) (by simp [Builtin.List.listTooLong]; omega))
                ⟨hl, ?_⟩⟩)
          have hlen : (List.foldl (fun x1 x2 => x1 ++ x2) #[] (List.replicate n.toNat #[v])).size ≤ lim := by
            have := (repL_reps (C := C) hx n.toNat #[] [] .nil).length
            rw [Array.length_toList] at this
            rw [this, List.nil_append, repL_length]; exact hsz
          exact I.newLst (vs := List.foldl (fun x1 x2 => x1 ++ x2) #[] (List.replicate n.toNat #[v])) hlen (by simpa using repL_reps hx n.toNat #[] [] .nil) .push get?_size (Heap.get?_push_size _ rfl)
        · cases h
      · cases h
    · cases h
  · split at h
    · rename_i x y
      split at h
      · cases h
      · rename_i hs
        cases h
        simp only [VRep] at ha hb
        obtain ⟨t, rfl⟩ := ha; obtain ⟨u, rfl⟩ := hb
        exact mod_int' (fun q => hs (.inl q)) ⟨W, .refl, I.toks, by simp only [VRep]; exact ⟨_, rfl⟩⟩
    · cases h
  · split at h
    · rename_i x y
      split at h
      · rename_i hs
        cases h
        simp only [VRep] at ha hb
        obtain ⟨t, rfl⟩ := ha; obtain ⟨u, rfl⟩ := hb
        exact pow_int_small hs.1 (by omega) (by omega) ⟨W, .refl, I.toks, by simp only [VRep]; exact ⟨_, rfl⟩⟩
      · cases h
    · cases h
  · split at h
    · rename_i x y
      split at h
      · cases h
      · rename_i hs
        cases h
        simp only [VRep] at ha hb
        obtain ⟨t, rfl⟩ := ha; obtain ⟨u, rfl⟩ := hb
        have hy : smallI y = true := by cases q : smallI y with | true => rfl | false => exact absurd (.inr q) hs
        refine PyProof.Rows.floordiv_int (fun q => hs (.inl q)) ⟨W, .refl, I.toks, by simp only [VRep]; exact ⟨_, rfl⟩⟩ (.inl (PyProof.noPylong_of_log2 ?_))
        have := smallI_spec hy
        have h0 : y.natAbs ≠ 0 := fun q => hs (.inl (by omega))
        have : y.natAbs.log2 < 63 := (Nat.log2_lt h0).mpr (by omega)
        omega
    · cases h

theorem snd_binop {l r : Expr} {op : Operator} {p : Pos} {dl dr : D AV} (hl : SndE C n sc l dl) (hr : SndE C n sc r dr) : SndE C n sc (.BinOp l op r p) (bnd dl fun a => bnd dr fun b => opt (binV op a b)) := by
  intro X W S s F I
  rw [eval_BinOp]
  refine Snd.bind (hl X W S s F I) fun a va W₁ S₁ s₁ l₁ I₁ r₁ _ => ?_
  refine Snd.bind (hr X W₁ S₁ s₁ F I₁).holding fun b vb W₂ S₂ s₂ l₂ I₂ r₂ _ => ?_
  refine Snd.stand (Snd.opt fun c hc => ?_) I₂
  refine wpAny_operateT (wp_binV I₂ (VRep.le r₁ l₂) r₂ hc)
end
end
end Mine
end
section
set_option autoImplicit false
namespace Mine
open PySem PyProof.Rows

/-- a value that is looked at: a shared one, or a container that one owner has -/
noncomputable def RP (C : Cx) : Wd → Heap → AV → Value → Prop := fun W h a v => VRep C W.g W.labs a v ∨ ∃ ad r, v = .ref ad ∧ W.role ad = some r ∧ CRep C W h ad a

section
variable {C : Cx} {g : Gh} {labs : List Addr} {h : Heap}
mutual
theorem VRep.reads (k : ∀ b o, g b = some o → h.get? b = some o) : ∀ {a : AV} {v : Value}, dataV a = true → VRep C g labs a v → ∃ as, Reads h v (toD a) as
  | .none, v, _, r => by simp only [VRep] at r; subst r; exact ⟨_, .none⟩
  | .bool b, v, _, r => by simp only [VRep] at r; subst r; exact ⟨_, .bool b⟩
  | .int i, v, _, r => by simp only [VRep] at r; obtain ⟨t, rfl⟩ := r; exact ⟨_, .int i t⟩
  | .str x, v, _, r => by simp only [VRep] at r; obtain ⟨_, _, t, rfl⟩ := r; exact ⟨_, .str x t⟩
  | .tup l, v, d, r => by
    simp only [VRep] at r
    obtain ⟨a, vs, rfl, ⟨n, ha⟩, _, hv⟩ := r
    obtain ⟨as, hr⟩ := VReps.reads k (l := l) (by simpa [dataV] using d) hv
    exact ⟨_, by simp only [toD]; exact .tuple (k _ _ ha) rfl rfl hr⟩
  | .lst l, v, d, r => by
    simp only [VRep] at r
    obtain ⟨a, vs, rfl, ⟨n, ha⟩, _, hv⟩ := r
    obtain ⟨as, hr⟩ := VReps.reads k (l := l) (by simpa [dataV] using d) hv
    exact ⟨_, by simp only [toD]; exact .list (k _ _ ha) rfl rfl hr⟩
  | .dct _ _, _, d, _ => by simp [dataV] at d
  | .obj _ _, _, d, _ => by simp [dataV] at d
  | .cel _, _, d, _ => by simp [dataV] at d
  | .exc _, _, d, _ => by simp [dataV] at d
  | .sett _, _, d, _ => by simp [dataV] at d
theorem VReps.reads (k : ∀ b o, g b = some o → h.get? b = some o) : ∀ {l : List AV} {vs : List Value}, dataVs l = true → VReps C g labs l vs → ∃ as, ReadsAll h vs (toDs l) as
  | [], vs, _, r => by simp only [VReps] at r; subst r; exact ⟨_, by simp only [toDs]; exact .nil⟩
  | x :: l, vs, d, r => by
    simp only [VReps] at r
    obtain ⟨v, vs', rfl, h1, h2⟩ := r
    simp only [dataVs, Bool.and_eq_true] at d
    obtain ⟨as, r1⟩ := VRep.reads k d.1 h1
    obtain ⟨bs, r2⟩ := VReps.reads k d.2 h2
    exact ⟨_, by simp only [toDs]; exact .cons r1 r2⟩
end
mutual
theorem VRep.canLay : ∀ {a : AV} {v : Value}, dataV a = true → VRep C g labs a v → (toD a).canLay0 = true
  | .none, v, _, r => by simp [toD, PyData.canLay0]
  | .bool b, v, _, r => by simp [toD, PyData.canLay0]
  | .int i, v, _, r => by simp [toD, PyData.canLay0]
  | .str x, v, _, r => by simp only [VRep] at r; simpa [toD, PyData.canLay0] using r.1
  | .tup l, v, d, r => by
    simp only [VRep] at r
    obtain ⟨a, vs, rfl, _, _, hv⟩ := r
    simpa [toD, PyData.canLay0] using VReps.canLay (l := l) (by simpa [dataV] using d) hv
  | .lst l, v, d, r => by
    simp only [VRep] at r
    obtain ⟨a, vs, rfl, _, _, hv⟩ := r
    simpa [toD, PyData.canLay0] using VReps.canLay (l := l) (by simpa [dataV] using d) hv
  | .dct _ _, _, d, _ => by simp [dataV] at d
  | .obj _ _, _, d, _ => by simp [dataV] at d
  | .cel _, _, d, _ => by simp [dataV] at d
  | .exc _, _, d, _ => by simp [dataV] at d
  | .sett _, _, d, _ => by simp [dataV] at d
theorem VReps.canLay : ∀ {l : List AV} {vs : List Value}, dataVs l = true → VReps C g labs l vs → PyData.canLayAll0 (toDs l) = true
  | [], vs, _, r => by simp [toDs, PyData.canLayAll0]
  | x :: l, vs, d, r => by
    simp only [VReps] at r
    obtain ⟨v, vs', rfl, h1, h2⟩ := r
    simp only [dataVs, Bool.and_eq_true] at d
    simp only [toDs, PyData.canLayAll0, VRep.canLay d.1 h1, VReps.canLay d.2 h2, Bool.and_self]
end
end
mutual
theorem depth_toD : ∀ a : AV, (toD a).depth ≤ depthV a
  | .none | .bool _ | .int _ | .str _ | .dct _ _ | .obj _ _ | .cel _ | .exc _ | .sett _ => by simp [toD, PyData.depth]
  | .tup l => by simp only [toD, PyData.depth, depthV]; have := depth_toDs l; omega
  | .lst l => by simp only [toD, PyData.depth, depthV]; have := depth_toDs l; omega
theorem depth_toDs : ∀ l : List AV, PyData.depthAll (toDs l) ≤ depthVs l
  | [] => by simp [toDs, PyData.depthAll]
  | x :: r => by simp only [toDs, PyData.depthAll, depthVs]; have := depth_toD x; have := depth_toDs r; omega
end

section
variable {C : Cx} {X : Fx} {W : Wd} {S : S} {s : Shared}
theorem RP.reads (I : Inv C X W S s) {a : AV} {v : Value} (hd : dataV a = true) (r : RP C W s.heap a v) : (∃ as, Reads s.heap v (toD a) as) ∧ (toD a).canLay0 = true := by
  rcases r with r | ⟨ad, r, rfl, hr, hc⟩
  · exact ⟨r.reads I.keeps hd, r.canLay hd⟩
  · cases a <;> first | exact hc.elim | skip
    rename_i l
    obtain ⟨vs, ⟨n, h1⟩, h2, h3⟩ := hc
    have hd' : dataVs l = true := by simpa [dataV] using hd
    obtain ⟨as, hr⟩ := h3.reads I.keeps hd'
    exact ⟨⟨_, by simp only [toD]; exact .list h1 rfl rfl hr⟩, by simpa [toD, PyData.canLay0] using h3.canLay hd'⟩

theorem cLine_big : 8000 + 1000 < cLine := by decide

theorem wp_eqV {a b : AV} {va vb : Value} {r : Bool} {E : Value → Shared → Prop} (hu : X.A.units ≤ 8000) (I : Inv C X W S s) (ha : RP C W s.heap a va) (hb : RP C W s.heap b vb) (h : eqV a b = some r) {Q : Value → Shared → Prop} (hQ : Q (.bool r) s) :
    wpAny C.M X.A (compareOp .Eq va vb) Q E s := by
  unfold eqV at h
  split at h
  · rename_i hc
    cases h
    simp only [Bool.and_eq_true, Bool.or_eq_true, decide_eq_true_eq] at hc
    obtain ⟨⟨as, ra⟩, ca⟩ := ha.reads I hc.1.1
    obtain ⟨⟨bs, rb⟩, cb⟩ := hb.reads I hc.1.2
    refine SeqAt.compareEq_reads ra rb ca cb ?_ hQ
    have h1 := depth_toD a; have h2 := depth_toD b; have h3 := cLine_big
    rcases hc.2 with q | q <;> omega
  · cases h
theorem wp_neV {a b : AV} {va vb : Value} {r : Bool} {E : Value → Shared → Prop} (hu : X.A.units ≤ 8000) (I : Inv C X W S s) (ha : RP C W s.heap a va) (hb : RP C W s.heap b vb) (h : eqV a b = some r) {Q : Value → Shared → Prop} (hQ : Q (.bool (!r)) s) :
    wpAny C.M X.A (compareOp .NotEq va vb) Q E s := by
  unfold eqV at h
  split at h
  · rename_i hc
    cases h
    simp only [Bool.and_eq_true, Bool.or_eq_true, decide_eq_true_eq] at hc
    obtain ⟨⟨as, ra⟩, ca⟩ := ha.reads I hc.1.1
    obtain ⟨⟨bs, rb⟩, cb⟩ := hb.reads I hc.1.2
    refine SeqAt.compareNe_reads ra rb ca cb ?_ hQ
    have h1 := depth_toD a; have h2 := depth_toD b; have h3 := cLine_big
    rcases hc.2 with q | q <;> omega
  · cases h

theorem RP.deref (I : Inv C X W S s) {a a' : AV} {v : Value} {S' : Mine.S} (r : RP C W s.heap a v) (h : deref a S = .ok a' S') : S' = S ∧ RP C W s.heap a' v := by
  unfold Mine.deref at h
  split at h
  · rename_i n
    split at h
    · rename_i c hc
      cases h
      refine ⟨rfl, ?_⟩
      obtain ⟨ad, h1, h2, h3⟩ := I.objs n _ hc
      rcases r with r | ⟨_, _, _, _, q⟩
      · simp only [VRep] at r
        obtain ⟨ad', q1, rfl⟩ := r
        rw [h1] at q1; cases q1
        exact .inr ⟨ad, _, rfl, h2, h3⟩
      · exact q.elim
    · cases h
  · cases h; exact ⟨rfl, r⟩
theorem deref_ok {a a' : AV} {S' : Mine.S} {c : Str} : deref a S ≠ .exc c S' := by
  unfold Mine.deref
  split
  · split <;> exact fun q => nomatch q
  · exact fun q => nomatch q

theorem RP.int {i : Int} {v : Value} (r : RP C W s.heap (.int i) v) : ∃ t, v = .int i t := by
  rcases r with r | ⟨_, _, _, _, q⟩
  · simpa only [VRep] using r
  · exact q.elim
theorem VRep.none_iff {a : AV} {v : Value} (r : RP C W s.heap a v) : isNone a = (v == Value.none) := by
  rcases r with r | ⟨ad, _, rfl, _, q⟩
  · cases a <;> simp only [VRep] at r
    · subst r; rfl
    · subst r; rfl
    · obtain ⟨t, rfl⟩ := r; rfl
    · obtain ⟨_, _, t, rfl⟩ := r; rfl
    · obtain ⟨_, _, rfl, _⟩ := r; rfl
    · obtain ⟨_, _, rfl, _⟩ := r; rfl
    · obtain ⟨_, _, _, _, rfl, _⟩ := r; rfl
    · obtain ⟨_, _, rfl⟩ := r; rfl
  · cases a <;> first | exact q.elim | rfl

theorem isNone_eq {v : Value} {a : AV} (r : RP C W s.heap a v) (h : isNone a = true) : v = Value.none := by
  have := VRep.none_iff r
  rw [h] at this
  exact (beq_iff_eq.mp this.symm)

theorem wp_cmpV {op : CmpOp} {a b : AV} {va vb : Value} {r : Bool} {E : Value → Shared → Prop} (hu : X.A.units ≤ 8000) (I : Inv C X W S s) (ha : RP C W s.heap a va) (hb : RP C W s.heap b vb) (h : cmpV op a b = some r)
    {Q : Value → Shared → Prop} (hQ : Q (.bool r) s) : wpAny C.M X.A (compareOp op va vb) Q E s := by
  unfold cmpV at h
  have inList : ∀ (l : List AV) (r' : Bool), b = .lst l → inV a b = some r' → (∃ as bs, Reads s.heap vb (.list (toDs l)) as ∧ Reads s.heap va (toD a) bs ∧ PyData.canLayAll0 (toDs l) = true ∧ (toD a).canLay0 = true ∧
      X.A.units + 1 + min (PyData.depthAll (toDs l)) (toD a).depth < cLine ∧ r' = (toDs l).any fun y => PyData.eqv y (toD a)) := by
    rintro l r' rfl hi
    unfold inV at hi
    dsimp only at hi
    split at hi
    · rename_i hc
      cases hi
      simp only [Bool.and_eq_true, decide_eq_true_eq] at hc
      obtain ⟨⟨as, ra⟩, ca⟩ := ha.reads I hc.1.1
      obtain ⟨⟨bs, rb⟩, cb⟩ := hb.reads I (a := .lst l) (by simpa [dataV] using hc.1.2)
      refine ⟨bs, as, by simpa only [toD] using rb, ra, by simpa [toD, PyData.canLay0] using cb, ca, ?_, rfl⟩
      have h1 := depth_toD a; have h3 := cLine_big
      omega
    · cases hi
  cases op <;> dsimp only at h
  · exact wp_eqV hu I ha hb h hQ
  · cases he : eqV a b with
    | none => rw [he] at h; cases h
    | some r' => rw [he] at h; cases h; exact wp_neV hu I ha hb he hQ
  · split at h
    · cases h; obtain ⟨t, rfl⟩ := ha.int; obtain ⟨u, rfl⟩ := hb.int; exact PyProof.Rows.lt_int hQ
    · cases h
  · split at h
    · cases h; obtain ⟨t, rfl⟩ := ha.int; obtain ⟨u, rfl⟩ := hb.int; exact PyProof.Rows.le_int hQ
    · cases h
  · split at h
    · cases h; obtain ⟨t, rfl⟩ := ha.int; obtain ⟨u, rfl⟩ := hb.int; exact PyProof.Rows.gt_int hQ
    · cases h
  · split at h
    · cases h; obtain ⟨t, rfl⟩ := ha.int; obtain ⟨u, rfl⟩ := hb.int; exact PyProof.Rows.ge_int hQ
    · cases h
  · split at h
    · rename_i hn
      cases h
      obtain rfl := isNone_eq hb hn
      exact is_none (by rw [← VRep.none_iff ha]; exact hQ)
    · cases h
  · split at h
    · rename_i hn
      cases h
      obtain rfl := isNone_eq hb hn
      exact isNot_none (by rw [← VRep.none_iff ha]; exact hQ)
    · cases h
  · cases b <;> first | (unfold inV at h; cases h; done) | skip
    · rename_i l
      obtain ⟨as, bs, h1, h2, h3, h4, h5, rfl⟩ := inList l r rfl h
      exact SeqAt.in_list_reads h1 h2 h3 h4 h5 hQ
    · rcases hb with hb | ⟨_, _, _, _, q⟩
      · simp only [VRep] at hb
      · exact q.elim
  · cases hi : inV a b with
    | none => rw [hi] at h; cases h
    | some r' =>
      rw [hi] at h; cases h
      cases b <;> first | (unfold inV at hi; cases hi; done) | skip
      · rename_i l
        obtain ⟨as, bs, h1, h2, h3, h4, h5, rfl⟩ := inList l r' rfl hi
        exact SeqAt.notIn_list_reads h1 h2 h3 h4 h5 hQ
      · rcases hb with hb | ⟨_, _, _, _, q⟩
        · simp only [VRep] at hb
        · exact q.elim

/-- trees and denotations in step -/
noncomputable def TrL (C : Cx) (X : Fx) (R : Wd → Heap → AV → Value → Prop) : List (Sem Value) → List (D AV) → Prop
  | [], [] => True
  | t :: ts, d :: ds => (∀ W S s, Inv C X W S s → Snd C X true R t d W S s) ∧ TrL C X R ts ds
  | _, _ => False
noncomputable abbrev RB : Wd → Heap → Bool → Bool → Prop := fun _ _ a b => a = b

theorem Snd.mono {ev : Bool} {α β : Type} {R R' : Wd → Heap → β → α → Prop} {m : Sem α} {d : D β} (h : Snd C X ev R m d W S s) (k : ∀ W h b a, R W h b a → R' W h b a) : Snd C X ev R' m d W S s := by
  unfold Snd at *
  cases hd : d S with
  | stuck => trivial
  | exc c S' => rw [hd] at h; exact h
  | ok b S' => rw [hd] at h; exact wpAny_mono h (fun a s' ⟨W', l, I, r⟩ => ⟨W', l, I, k _ _ _ _ r⟩) fun _ _ x => x
theorem Snd.stk {ev : Bool} {α β : Type} {R : Wd → Heap → β → α → Prop} {m : Sem α} : Snd C X ev R m Mine.stk W S s := trivial
theorem Snd.deref {ev : Bool} {α β : Type} {R : Wd → Heap → β → α → Prop} {m : Sem α} {a : AV} {v : Value} {f : AV → D β} (I : Inv C X W S s) (r : RP C W s.heap a v) (h : ∀ a', RP C W s.heap a' v → Snd C X ev R m (f a') W S s) :
    Snd C X ev R m (bnd (Mine.deref a) f) W S s := by
  cases hd : Mine.deref a S with
  | stuck => exact Snd.of_eq (d := Mine.stk) .stk (by unfold bnd; rw [hd]; rfl)
  | exc c S' => exact absurd hd (deref_ok (a' := a))
  | ok a' S' =>
    obtain ⟨rfl, r'⟩ := r.deref I hd
    exact Snd.of_eq (h a' r') (by unfold bnd; rw [hd])

theorem snd_compareChain (hu : X.A.units ≤ 8000) {pos : Pos} : ∀ (ops : List CmpOp) (ts : List (Sem Value)) (ds : List (D AV)) (a : AV) (va : Value) (W : Wd) (S : Mine.S) (s : Shared), ops.length = ds.length → TrL C X (RP C) ts ds → Inv C X W S s →
    VRep C W.g W.labs a va → Snd C X true (RV C) (compareChain pos va ops ts) (cmpGo a ops ds) W S s
  | [], _, _, _, _, _, _, _, _, _, _, _ => by simp only [cmpGo]; exact Snd.stk
  | _ :: _, _, [], _, _, _, _, _, hn, _, _, _ => by simp at hn
  | _ :: _, [], _ :: _, _, _, _, _, _, _, h, _, _ => h.elim
  | [op], [t], [d], a, va, W, S, s, _, h, I, ha => by
    simp only [compareChain, cmpGo]
    refine Snd.bind (h.1 W S s I).holding fun b vb W₁ S₁ s₁ l₁ I₁ r₁ _ => Snd.stand ?_ I₁
    refine Snd.deref I₁ r₁ fun b' r' => Snd.opt fun c hc => wpAny_operateT ?_
    cases hq : cmpV op a b' with
    | none => rw [hq] at hc; cases hc
    | some q => rw [hq] at hc; cases hc; exact wp_cmpV hu I₁ (.inl (ha.le l₁)) r' hq ⟨W₁, .refl, I₁, by simp only [VRep]⟩
  | [_], _ :: _ :: _, [_], _, _, _, _, _, _, h, _, _ => h.2.elim
  | [_], _, _ :: _ :: _, _, _, _, _, _, hn, _, _, _ => by simp at hn
  | op :: op' :: ops, t :: ts, d :: ds, a, va, W, S, s, hn, h, I, ha => by
    show Snd C X true (RV C) (compareChain pos va (op :: op' :: ops) (t :: ts)) (cmpGo a (op :: op' :: ops) (d :: ds)) W S s
    rw [show compareChain pos va (op :: op' :: ops) (t :: ts) = (do
        let rv ← holding [va] t
        standAt pos
        let c ← holding [va, rv] (compareOp op va rv)
        release [va, rv] [c]
        if ← holding [c, rv] (truthy c) then compareChain pos rv (op' :: ops) ts else pure c) from by cases ts <;> rfl,
      show cmpGo a (op :: op' :: ops) (d :: ds) = (bnd d fun b => (match b with
        | .int i => bnd (Mine.opt (cmpV op a (.int i))) fun t => if t then cmpGo (.int i) (op' :: ops) ds else pur (.bool false)
        | _ => Mine.stk)) from by cases ds <;> rfl]
    refine Snd.bind (h.1 W S s I).holding fun b vb W₁ S₁ s₁ l₁ I₁ r₁ _ => Snd.stand ?_ I₁
    cases b <;> first | exact Snd.stk | skip
    rename_i i _
    dsimp only
    cases hq : cmpV op a (.int i) with
    | none => exact Snd.of_eq (d := Mine.stk) .stk rfl
    | some q =>
      refine Snd.of_eq (d := if q = true then cmpGo (.int i) (op' :: ops) ds else pur (.bool false)) ?_ rfl
      refine Snd.step (wpAny_holding (wp_cmpV hu I₁ (.inl (ha.le l₁)) r₁ hq ⟨W₁, .refl, I₁, ?_⟩))
      refine Snd.step (wpAny_release ⟨W₁, .refl, I₁, ?_⟩)
      refine Snd.step (wpAny_holding (wpAny_truthy_bool ⟨W₁, .refl, I₁, ?_⟩))
      obtain ⟨u, rfl⟩ := r₁.int
      cases q with
      | true => exact snd_compareChain hu (op' :: ops) ts ds (.int i) _ W₁ S₁ s₁ (by simpa using hn) h.2 I₁ (by simp only [VRep]; exact ⟨u, rfl⟩)
      | false => exact Snd.pure I₁ (by simp only [VRep])

noncomputable abbrev trd (d : D AV) : D Bool := bnd d fun v => Mine.opt (truthV v)
theorem snd_truthy {a : AV} {v : Value} (I : Inv C X W S s) (r : VRep C W.g W.labs a v) : Snd C X true RB (truthy v) (Mine.opt (truthV a)) W S s := by
  refine Snd.opt fun b hb => ?_
  unfold truthV at hb
  split at hb
  · cases hb; simp only [VRep] at r; subst r; exact wpAny_truthy_bool ⟨W, .refl, I, rfl⟩
  · cases hb
theorem bnd_assoc {α β γ : Type} (m : D α) (f : α → D β) (g : β → D γ) : bnd (bnd m f) g = bnd m fun a => bnd (f a) g := by
  funext S; unfold bnd; cases m S <;> rfl
theorem snd_testChain (hu : X.A.units ≤ 8000) {pos : Pos} : ∀ (ops : List CmpOp) (ts : List (Sem Value)) (ds : List (D AV)) (a : AV) (va : Value) (W : Wd) (S : Mine.S) (s : Shared), ops.length = ds.length → TrL C X (RP C) ts ds → Inv C X W S s →
    VRep C W.g W.labs a va → Snd C X true RB (testChain pos va ops ts) (trd (cmpGo a ops ds)) W S s
  | [], _, _, _, _, _, _, _, _, _, _, _ => by simp only [cmpGo]; exact Snd.stk
  | _ :: _, _, [], _, _, _, _, _, hn, _, _, _ => by simp at hn
  | _ :: _, [], _ :: _, _, _, _, _, _, _, h, _, _ => h.elim
  | [op], [t], [d], a, va, W, S, s, _, h, I, ha => by
    simp only [testChain, cmpGo, trd, bnd_assoc]
    refine Snd.bind (h.1 W S s I).holding fun b vb W₁ S₁ s₁ l₁ I₁ r₁ _ => Snd.stand ?_ I₁
    refine Snd.deref I₁ r₁ fun b' r' => ?_
    refine Snd.bind (R := RV C) (Snd.opt fun c hc => wpAny_operateT ?_) fun c vc W₂ S₂ s₂ l₂ I₂ r₂ _ => (snd_truthy I₂ r₂).holding
    cases hq : cmpV op a b' with
    | none => rw [hq] at hc; cases hc
    | some q => rw [hq] at hc; cases hc; exact wp_cmpV hu I₁ (.inl (ha.le l₁)) r' hq ⟨W₁, .refl, I₁, by simp only [VRep]⟩
  | [_], _ :: _ :: _, [_], _, _, _, _, _, _, h, _, _ => h.2.elim
  | [_], _, _ :: _ :: _, _, _, _, _, _, hn, _, _, _ => by simp at hn
  | op :: op' :: ops, t :: ts, d :: ds, a, va, W, S, s, hn, h, I, ha => by
    show Snd C X true RB (testChain pos va (op :: op' :: ops) (t :: ts)) (trd (cmpGo a (op :: op' :: ops) (d :: ds))) W S s
    rw [show testChain pos va (op :: op' :: ops) (t :: ts) = (do
        let rv ← holding [va] t
        standAt pos
        let c ← holding [va, rv] (compareOp op va rv)
        release [va, rv] [c]
        if ← holding [c, rv] (truthy c) then testChain pos rv (op' :: ops) ts else pure false) from by cases ts <;> rfl,
      show cmpGo a (op :: op' :: ops) (d :: ds) = (bnd d fun b => (match b with
        | .int i => bnd (Mine.opt (cmpV op a (.int i))) fun t => if t then cmpGo (.int i) (op' :: ops) ds else pur (.bool false)
        | _ => Mine.stk)) from by cases ds <;> rfl]
    unfold trd
    rw [bnd_assoc]
    refine Snd.bind (h.1 W S s I).holding fun b vb W₁ S₁ s₁ l₁ I₁ r₁ _ => Snd.stand ?_ I₁
    cases b <;> first | exact Snd.stk | skip
    rename_i i _
    dsimp only
    cases hq : cmpV op a (.int i) with
    | none => exact Snd.of_eq (d := Mine.stk) .stk rfl
    | some q =>
      refine Snd.of_eq (d := trd (if q = true then cmpGo (.int i) (op' :: ops) ds else pur (.bool false))) ?_ rfl
      refine Snd.step (wpAny_holding (wp_cmpV hu I₁ (.inl (ha.le l₁)) r₁ hq ⟨W₁, .refl, I₁, ?_⟩))
      refine Snd.step (wpAny_release ⟨W₁, .refl, I₁, ?_⟩)
      refine Snd.step (wpAny_holding (wpAny_truthy_bool ⟨W₁, .refl, I₁, ?_⟩))
      obtain ⟨u, rfl⟩ := r₁.int
      cases q with
      | true => exact snd_testChain hu (op' :: ops) ts ds (.int i) _ W₁ S₁ s₁ (by simpa using hn) h.2 I₁ (by simp only [VRep]; exact ⟨u, rfl⟩)
      | false => exact Snd.of_eq (d := pur false) (Snd.pure I₁ rfl) rfl
end
end Mine
end
section
set_option autoImplicit false
namespace Mine
open PySem PyProof.Rows

section
variable {C : Cx} {X : Fx} {W : Wd} {S : S} {s : Shared}

theorem snd_boolOp {pos : Pos} {op : BoolOp} : ∀ (ts : List (Sem Value)) (ds : List (D AV)) (W : Wd) (S : Mine.S) (s : Shared), TrL C X (RV C) ts ds → Inv C X W S s → Snd C X true (RV C) (boolOp pos op ts) (boolGo op ds) W S s
  | [], [], _, _, _, _, _ => Snd.stk
  | [], _ :: _, _, _, _, h, _ => h.elim
  | _ :: _, [], _, _, _, h, _ => h.elim
  | [t], [d], W, S, s, h, I => h.1 W S s I
  | [_], _ :: _ :: _, _, _, _, h, _ => h.2.elim
  | _ :: _ :: _, [_], _, _, _, h, _ => h.2.elim
  | t :: t' :: ts, d :: d' :: ds, W, S, s, h, I => by
    simp only [boolOp, boolGo]
    refine Snd.bind (h.1 W S s I) fun a va W₁ S₁ s₁ l₁ I₁ r₁ _ => Snd.stand ?_ I₁
    refine Snd.bind (snd_truthy I₁ r₁).holding fun b b' W₂ S₂ s₂ l₂ I₂ r₂ _ => ?_
    obtain rfl : b = b' := r₂
    have hrec := snd_boolOp (pos := pos) (op := op) (t' :: ts) (d' :: ds) W₂ S₂ s₂ h.2 I₂
    cases op <;> cases b <;> first | exact Snd.pure I₂ (VRep.le r₁ l₂) | exact hrec

/-- tests and denotations in step -/
noncomputable def TrT (C : Cx) (X : Fx) : List Expr → List (D AV) → Prop
  | [], [] => True
  | e :: es, d :: ds => (∀ W S s, Inv C X W S s → Snd C X true RB (isTrue e X.env (eval e X.env)) (trd d) W S s) ∧ TrT C X es ds
  | _, _ => False
theorem Snd.bind_pure {ev : Bool} {α β : Type} {R : Wd → Heap → β → α → Prop} {m : Sem α} {d : D β} {f : α → α} (h : Snd C X ev R m d W S s) (hf : ∀ a, f a = a) : Snd C X ev R (m >>= fun a => Pure.pure (f a)) d W S s := by
  unfold Snd at *
  cases hd : d S with
  | stuck => trivial
  | exc c S' => rw [hd] at h; exact wpAny_bind (wpAny_mono h (fun _ _ x => x.elim) fun _ _ x => x)
  | ok b S' => rw [hd] at h; exact wpAny_bind (wpAny_mono h (fun a s' q => wpAny_pure (by rw [hf]; exact q)) fun _ _ x => x)

theorem snd_allTrue {op : BoolOp} : ∀ (es : List Expr) (ds : List (D AV)) (W : Wd) (S : Mine.S) (s : Shared), TrT C X es ds → Inv C X W S s → Snd C X true RB (allTrue op es X.env) (trd (boolGo op ds)) W S s
  | [], [], _, _, _, _, _ => Snd.stk
  | [], _ :: _, _, _, _, h, _ => h.elim
  | _ :: _, [], _, _, _, h, _ => h.elim
  | [e], [d], W, S, s, h, I => by
    rw [show allTrue op [e] X.env = (isTrue e X.env (eval e X.env) >>= fun b => Pure.pure ((fun b => match op, b with | .And, false => false | .Or, true => true | _, _ => op == .And) b)) from by
      simp only [allTrue]
      congr 1; funext b; cases op <;> cases b <;> rfl]
    exact Snd.bind_pure (h.1 W S s I) fun b => by cases op <;> cases b <;> rfl
  | [_], _ :: _ :: _, _, _, _, h, _ => h.2.elim
  | _ :: _ :: _, [_], _, _, _, h, _ => h.2.elim
  | e :: e' :: es, d :: d' :: ds, W, S, s, h, I => by
    have h1 := h.1 W S s I
    refine Snd.of_eq (d := bnd (trd d) fun b => match op, b with | .And, false => pur false | .Or, true => pur true | _, _ => trd (boolGo op (d' :: ds))) ?_ ?eq
    case eq =>
      simp only [trd, boolGo, bnd]
      cases hd : d S with
      | stuck => rfl
      | exc c S' => rfl
      | ok a S' =>
        dsimp only
        cases ht : truthV a with
        | none => rfl
        | some b => cases op <;> cases b <;> first | (simp [Mine.opt, pur, ht]; done) | (simp [Mine.opt, pur]; rfl)
    simp only [allTrue]
    refine Snd.bind h1 fun b b' W₂ S₂ s₂ l₂ I₂ r₂ _ => ?_
    obtain rfl : b = b' := r₂
    have hrec := snd_allTrue (op := op) (e' :: es) (d' :: ds) W₂ S₂ s₂ h.2 I₂
    simp only [allTrue] at hrec
    cases op <;> cases b <;> first | exact Snd.pure I₂ rfl | exact hrec

theorem wp_unV {op : UnaryOp} {a c : AV} {va : Value} {E : Value → Shared → Prop} (I : Inv C X W S s) (ha : VRep C W.g W.labs a va) (h : unV op a = some c) : wpAny C.M X.A (unaryOp op va) (Pst C X W S c) E s := by
  unfold unV at h
  cases op <;> dsimp only at h <;> first | (cases h; done) | skip
  · unfold truthV at h
    split at h
    · cases h
      simp only [VRep] at ha; subst ha
      exact not_value (wpAny_truthy_bool ⟨W, .refl, I, by simp only [VRep]⟩)
    · cases h
  · split at h
    · cases h
      simp only [VRep] at ha; obtain ⟨t, rfl⟩ := ha
      exact PyProof.Rows.neg_int ⟨W, .refl, I.toks, by simp only [VRep]; exact ⟨_, rfl⟩⟩
    · cases h
theorem snd_unop {n : Nat} {sc : List (Str × NameKind)} {e : Expr} {op : UnaryOp} {p : Pos} {d : D AV} (h : SndE C n sc e d) : SndE C n sc (.UnaryOp op e p) (bnd d fun a => Mine.opt (unV op a)) := by
  intro X W S s F I
  rw [show eval (.UnaryOp op e p) X.env = (do let v ← eval e X.env; standAt p; holding [v] (unaryOp op v)) from rfl]
  exact Snd.bind (h X W S s F I) fun a va W₁ S₁ s₁ l₁ I₁ r₁ _ => Snd.stand (Snd.opt fun c hc => wpAny_holding (wp_unV I₁ r₁ hc)) I₁

noncomputable abbrev RVs (C : Cx) : Wd → Heap → List AV → List Value → Prop := fun W _ l vs => VReps C W.g W.labs l vs

/-- what stands in a display or among a call's arguments -/
noncomputable def TrE (C : Cx) (X : Fx) (R : Wd → Heap → AV → Value → Prop) : List Expr → List (D AV) → Prop
  | [], [] => True
  | e :: es, d :: ds => ((∀ W S s, Inv C X W S s → Snd C X true R (eval e X.env) d W S s) ∧ (PySem.W.isStarred e = true → d = Mine.stk)) ∧ TrE C X R es ds
  | _, _ => False
theorem snd_spliced {pos : Pos} : ∀ (es : List Expr) (ds : List (D AV)) (W : Wd) (S : Mine.S) (s : Shared), TrE C X (RV C) es ds → Inv C X W S s → Snd C X true (RVs C) (spliced (backTo pos (starEach es X.env))) (seqD ds) W S s
  | [], [], W, S, s, _, I => Snd.pure I VReps.nil
  | [], _ :: _, _, _, _, h, _ => h.elim
  | _ :: _, [], _, _, _, h, _ => h.elim
  | e :: es, d :: ds, W, S, s, h, I => by
    by_cases hs : PySem.W.isStarred e = true
    · rw [h.1.2 hs]; exact Snd.stk
    · rw [show starEach (e :: es) X.env = (false, eval e X.env) :: starEach es X.env from by cases e <;> first | rfl | exact absurd rfl hs]
      simp only [backTo, List.map_cons, spliced, seqD]
      refine Snd.bind (h.1.1 W S s I) fun a va W₁ S₁ s₁ l₁ I₁ r₁ _ => ?_
      refine Snd.step (wpAny_pure ⟨W₁, .refl, I₁, ?_⟩)
      refine Snd.bind (snd_spliced (pos := pos) es ds W₁ S₁ s₁ h.2 I₁).holding fun vs ws W₂ S₂ s₂ l₂ I₂ r₂ _ => ?_
      exact Snd.pure I₂ (VReps.cons (VRep.le r₁ l₂) r₂)
theorem snd_newTuple {l : List AV} {vs : List Value} (I : Inv C X W S s) (h : VReps C W.g W.labs l vs) : Snd C X true (RV C) (newTuple vs) (Mine.opt (mkTup l)) W S s := by
  refine Snd.opt fun b hb => ?_
  unfold mkTup at hb
  split at hb
  · rename_i hsz
    cases hb
    have hl := h.length
    exact wpAny_newObj_type (I.newTup (tk := s.toks) (vs := vs.toArray) (by simpa [hl] using hsz) (by simpa using h) .push get?_size (Heap.get?_push_size _ rfl)) (by show vs.toArray.size ≤ sizeLine; simpa [hl] using hsz)
  · cases hb
theorem snd_newList {l : List AV} {vs : List Value} (I : Inv C X W S s) (h : VReps C W.g W.labs l vs) : Snd C X true (RV C) (newList vs) (Mine.opt (mkLst l)) W S s := by
  refine Snd.opt fun b hb => ?_
  unfold mkLst at hb
  split at hb
  · rename_i hsz
    cases hb
    have hl := h.length
    exact wpAny_newObj_type (I.newLst (tk := s.toks) (vs := vs.toArray) (by simpa [hl] using hsz) (by simpa using h) .push get?_size (Heap.get?_push_size _ rfl)) (by show vs.toArray.size ≤ sizeLine; simpa [hl] using hsz)
  · cases hb
theorem snd_tuple {es : List Expr} {ds : List (D AV)} {k : Nat} {p : Pos} (h : TrE C X (RV C) es ds) (I : Inv C X W S s) : Snd C X true (RV C) (eval (.Tuple es k p) X.env) (bnd (seqD ds) fun vs => Mine.opt (mkTup vs)) W S s := by
  rw [arm_eval_Tuple]
  exact Snd.stand (Snd.bind (snd_spliced es ds W S s h I) fun l vs W₁ S₁ s₁ l₁ I₁ r₁ _ => snd_newTuple I₁ r₁) I
theorem snd_list {es : List Expr} {ds : List (D AV)} {p : Pos} (h : TrE C X (RV C) es ds) (I : Inv C X W S s) : Snd C X true (RV C) (eval (.List es p) X.env) (bnd (seqD ds) fun vs => Mine.opt (mkLst vs)) W S s := by
  rw [arm_eval_List]
  exact Snd.stand (Snd.bind (snd_spliced es ds W S s h I) fun l vs W₁ S₁ s₁ l₁ I₁ r₁ _ => snd_newList I₁ r₁) I
end
end Mine
end
section
set_option autoImplicit false
namespace Mine
open PySem PyProof.Rows

section
variable {C : Cx} {n : Nat} {T : Ctx} {sc : List (Str × NameKind)}

theorem LRep.peek {W : Wd} {h : Heap} {r : Role} {lv : LV} {v : Value} (x : LRep C W h r lv v) : RP C W h (match lv with | .val a => a | .own a => a) v := by
  cases lv with
  | val a => exact .inl x
  | own c => obtain ⟨a, h1, h2, h3⟩ := x; exact .inr ⟨a, r, h1, h2, h3⟩

/-- a name that is looked at -/
noncomputable abbrev RN (C : Cx) (sc : List (Str × NameKind)) (x : Str) : Wd → Heap → AV → Value → Prop := fun W h a v => RP C W h a v ∧ (isLoc sc x = true → W.val x = some v) ∧ (isLoc sc x = false → VRep C W.g W.labs a v)
theorem snd_peek (K : CxOk C) (hT : CtxOk C T) {x : Str} {p : Pos} (X : Fx) (W : Wd) (S : S) (s : Shared) (F : FxOk C n X sc) (I : Inv C X W S s) : Snd C X true (RN C sc x) (eval (.Name x p) X.env) (dPeek T x sc) W S s := by
  unfold dPeek
  by_cases hl : isLoc sc x = true
  · rw [if_pos hl, eval_Name _ _ _ (okNm_debug (isLoc_ok hl))]
    refine Snd.stand ?_ I
    unfold Snd pkLoc
    cases hx : getA x S.loc with
    | none => trivial
    | some lv =>
      obtain ⟨v, h1, h2⟩ := I.vars x _ hx
      cases lv with
      | val a => exact wp_local F I hl h1 ⟨W, .refl, I, h2.peek, fun _ => h1, fun q => by rw [hl] at q; cases q⟩
      | own c => exact wp_local F I hl h1 ⟨W, .refl, I, h2.peek, fun _ => h1, fun q => by rw [hl] at q; cases q⟩
  · rw [if_neg hl]
    by_cases hg : isGlob sc x = true
    · rw [if_pos hg, eval_Name _ _ _ (okNm_debug (isGlob_ok hg))]
      exact Snd.stand ((snd_const_glob K hT F I hg).mono fun W h b a r => ⟨.inl r, fun q => absurd q hl, fun _ => r⟩) I
    · rw [if_neg hg]; trivial
/-- looked at once more -/
theorem snd_again {β : Type} {R : Wd → Heap → AV → β → Prop} {m : Sem β} {x : Str} {v : Value} {a : AV} {W₀ W : Wd} {S₀ S : S} {s : Shared} {h₀ : Heap} {X : Fx} {f : AV → D AV} (I : Inv C X W S s) (hv : RN C sc x W₀ h₀ a v) (l : W₀.le true W)
    (ha : dPeek T x sc S₀ = .ok a S₀) (h : ∀ c, RP C W s.heap c v → Snd C X true R m (f c) W S s) : Snd C X true R m (bnd (dPeek T x sc) f) W S s := by
  unfold dPeek at ha ⊢
  by_cases hl : isLoc sc x = true
  · rw [if_pos hl]
    have hval : W.val x = some v := by rw [l.val rfl]; exact hv.2.1 hl
    cases hx : getA x S.loc with
    | none => exact Snd.of_eq (d := stk) .stk (by unfold bnd pkLoc; rw [hx]; rfl)
    | some lv =>
      obtain ⟨v', h1, h2⟩ := I.vars x _ hx
      rw [hval] at h1; cases h1
      exact Snd.of_eq (h _ h2.peek) (by unfold bnd pkLoc; rw [hx]; cases lv <;> rfl)
  · rw [if_neg hl] at ha ⊢
    have hl' : isLoc sc x = false := by simpa using hl
    by_cases hg : isGlob sc x = true
    · rw [if_pos hg] at ha ⊢
      cases hc : T.const x with
      | none => rw [hc] at ha; cases ha
      | some c =>
        rw [hc] at ha
        cases ha
        exact Snd.of_eq (h a (.inl ((hv.2.2 hl').le l))) (by unfold bnd Mine.opt; rfl)
    · rw [if_neg hg] at ha; cases ha

theorem peek_state {x : Str} {a : AV} {S S' : Mine.S} (h : dPeek T x sc S = .ok a S') : S' = S := by
  unfold dPeek at h
  split at h
  · unfold pkLoc at h
    split at h <;> cases h <;> rfl
  · split at h
    · unfold Mine.opt at h
      split at h <;> cases h; rfl
    · cases h

theorem snd_withBase (K : CxOk C) (hT : CtxOk C T) {α : Type} {R : Wd → Heap → α → Value → Prop} {v slice : Expr} {p : Pos} {dv : D AV} {ix : D α} {k : AV → α → Option AV}
    (hv : SndE C n sc v dv) (hix : ∀ (X : Fx) (W : Wd) (S : S) (s : Shared), FxOk C n X sc → Inv C X W S s → Snd C X true R (eval slice X.env) ix W S s)
    (hk : ∀ (X : Fx) (W : Wd) (S : S) (s : Shared) (c : AV) (va : Value) (i : α) (vi : Value) (r : AV), FxOk C n X sc → Inv C X W S s → RP C W s.heap c va → R W s.heap i vi → k c i = some r → wpAny C.M X.A (subscriptTail v slice va vi) (Pst C X W S r) (fun _ _ => False) s) :
    SndE C n sc (.Subscript v slice p) (withBase T sc v dv ix k) := by
  intro X W S s F I
  rw [show eval (.Subscript v slice p) X.env = (do
      let o ← eval v X.env
      let i ← holding [o] (eval slice X.env)
      standAt p
      subscriptTail v slice o i) from rfl]
  have gen : Snd C X true (RV C) (do
      let o ← eval v X.env
      let i ← holding [o] (eval slice X.env)
      standAt p
      subscriptTail v slice o i) (bnd dv fun c => bnd ix fun i => bnd (deref c) fun c' => Mine.opt (k c' i)) W S s := by
    refine Snd.bind (hv X W S s F I) fun a va W₁ S₁ s₁ l₁ I₁ r₁ _ => ?_
    refine Snd.bind (hix X W₁ S₁ s₁ F I₁).holding fun i vi W₂ S₂ s₂ l₂ I₂ r₂ _ => Snd.stand ?_ I₂
    exact Snd.deref I₂ (.inl (VRep.le r₁ l₂)) fun c' hc' => Snd.opt fun r hr => hk X W₂ S₂ s₂ c' va i vi r F I₂ hc' r₂ hr
  cases v <;> first | exact gen | skip
  rename_i x q
  unfold withBase
  refine Snd.bind (snd_peek K hT X W S s F I) fun a va W₁ S₁ s₁ l₁ I₁ r₁ e₁ => ?_
  have hS := peek_state e₁
  refine Snd.bind (hix X W₁ S₁ s₁ F I₁).holding fun i vi W₂ S₂ s₂ l₂ I₂ r₂ _ => Snd.stand ?_ I₂
  refine snd_again (S₀ := S₁) I₂ r₁ l₂ (by rw [hS]; exact hS ▸ e₁) fun c hc => ?_
  exact Snd.deref I₂ hc fun c' hc' => Snd.opt fun r hr => hk X W₂ S₂ s₂ c' va i vi r F I₂ hc' r₂ hr

theorem RP.seq {X : Fx} {W : Wd} {S : S} {s : Shared} {l : List AV} {v : Value} (I : Inv C X W S s) (r : RP C W s.heap (.lst l) v) : ∃ a vs, v = .ref a ∧ s.heap.PlainList a vs ∧ vs.size ≤ lim ∧ VReps C W.g W.labs l vs.toList := by
  rcases r with r | ⟨ad, _, rfl, _, q⟩
  · simp only [VRep] at r
    obtain ⟨a, vs, rfl, ⟨n, h1⟩, h2, h3⟩ := r
    exact ⟨a, vs, rfl, ⟨n, I.keeps _ _ h1⟩, h2, h3⟩
  · obtain ⟨vs, h1, h2, h3⟩ := q
    exact ⟨ad, vs, rfl, h1, h2, h3⟩
theorem RP.tup {X : Fx} {W : Wd} {S : S} {s : Shared} {l : List AV} {v : Value} (I : Inv C X W S s) (r : RP C W s.heap (.tup l) v) : ∃ a vs n, v = .ref a ∧ s.heap.get? a = some { cls := .type "tuple", data := .seq vs n } ∧ vs.size ≤ lim ∧ VReps C W.g W.labs l vs.toList := by
  rcases r with r | ⟨ad, _, rfl, _, q⟩
  · simp only [VRep] at r
    obtain ⟨a, vs, rfl, ⟨n, h1⟩, h2, h3⟩ := r
    exact ⟨a, vs, n, rfl, I.keeps _ _ h1, h2, h3⟩
  · exact q.elim

theorem at?_spec {l : List AV} {i : Int} {a : AV} (h : at? l i = some a) : ∃ j, seqIndex? i l.length = some j ∧ l[j]? = some a ∧ -(l.length : Int) ≤ i ∧ i < l.length := by
  unfold at? at h
  split at h
  · rename_i h0
    have hlt := (List.getElem?_eq_some_iff.mp h).1
    refine ⟨i.toNat, ?_, h, by omega, by omega⟩
    unfold seqIndex?
    have : ¬ i < 0 := by omega
    simp only [if_neg this]
    rw [if_pos (by simp; omega)]
  · split at h
    · rename_i h0 h1
      have hlt := (List.getElem?_eq_some_iff.mp h).1
      refine ⟨(i + l.length).toNat, ?_, h, by omega, by omega⟩
      unfold seqIndex?
      have : i < 0 := by omega
      simp only [if_pos this]
      rw [if_pos (by simp; omega)]
    · cases h

theorem sub_plain {slice : Expr} {o i : Value} (h : ∀ a b p, slice ≠ .Slice a b none p) : subscripted slice false o i = operate [o, i] (getItem o i) := by
  cases slice <;> first | rfl | skip
  rename_i a b c p
  cases c with
  | none => exact absurd rfl (h a b p)
  | some _ => rfl

theorem wp_idx {X : Fx} {W : Wd} {S : S} {s : Shared} {v slice : Expr} {c i r : AV} {va vi : Value} (hsl : ∀ a b p, slice ≠ .Slice a b none p) (I : Inv C X W S s) (hc : RP C W s.heap c va) (hi : VRep C W.g W.labs i vi) (h : idxV c i = some r) :
    wpAny C.M X.A (subscriptTail v slice va vi) (Pst C X W S r) (fun _ _ => False) s := by
  have hlim : lim = 16777216 := rfl
  unfold idxV at h
  split at h
  · rename_i l k
    simp only [VRep] at hi; obtain ⟨u, rfl⟩ := hi
    obtain ⟨a, vs, n, rfl, ha, hsz, hv⟩ := hc.tup I
    obtain ⟨j, h1, h2, h3, h4⟩ := at?_spec h
    have hlen := hv.length
    rw [Array.length_toList] at hlen
    obtain ⟨x, hx, hr⟩ := hv.get h2
    exact tail_any (T := "tuple") ⟨_, ha, rfl⟩ F.slot_tuple_getitem.lookup (PyProof.Rows.getItem_tuple (items := vs) ⟨_, ha, rfl, n, rfl⟩ (by omega) (by omega) (by rw [hlen]; exact h1) (by simpa using hx) ⟨W, .refl, I, hr⟩) (sub_plain hsl)
  · rename_i l k
    simp only [VRep] at hi; obtain ⟨u, rfl⟩ := hi
    obtain ⟨a, vs, rfl, ha, hsz, hv⟩ := hc.seq I
    have hlen := hv.length
    rw [Array.length_toList] at hlen
    unfold at? at h
    split at h
    · rename_i h0
      obtain ⟨x, hx, hr⟩ := hv.get h
      have hlt := (List.getElem?_eq_some_iff.mp h).1
      exact tail_any ha.isList.typeIs F.slot_list_getitem.lookup (wpAny_getItem_list ha.isList h0 (by omega) (by simpa using hx) ⟨W, .refl, I, hr⟩) (sub_plain hsl)
    · split at h
      · rename_i h0 h1
        obtain ⟨x, hx, hr⟩ := hv.get h
        exact tail_any ha.isList.typeIs F.slot_list_getitem.lookup (wpAny_getItem_list_neg ha.isList (by omega) (by omega) (by omega) (by rw [hlen]; simpa using hx) ⟨W, .refl, I, hr⟩) (sub_plain hsl)
      · cases h
  · rename_i x k
    split at h
    · rename_i h0
      simp only [VRep] at hi; obtain ⟨u, rfl⟩ := hi
      rcases hc with hc | ⟨_, _, _, _, q⟩
      · simp only [VRep] at hc
        obtain ⟨ok, hsz, t, rfl⟩ := hc
        cases he : x.cps[k.toNat]? with
        | none => rw [he] at h; cases h
        | some cp =>
          rw [he] at h
          cases h
          have hlt := (Array.getElem?_eq_some_iff.mp he).1
          have hsz' : x.cps.size ≤ lim := hsz
          refine tail_any (T := "str") (typeIs_str s x t) F.slot_str_getitem.lookup (PyProof.Rows.getItem_str (c := cp) (by simp; omega) ?_ ?_) (sub_plain hsl)
          · unfold seqIndex?
            have : ¬ k < 0 := by omega
            simp only [if_neg this]
            rw [if_pos (by have : x.length = x.cps.size := rfl; simp; omega)]
            simpa using he
          · refine ⟨W, .refl, I.toks, ?_⟩
            simp only [VRep]
            refine ⟨?_, by show (1 : Nat) ≤ lim; decide, _, rfl⟩
            have : x.cps.all (· < 0x110000) = true := ok
            have hm := Array.all_eq_true.mp this k.toNat hlt
            have : x.cps[k.toNat] = cp := (Array.getElem?_eq_some_iff.mp he).2
            rw [this] at hm
            show (#[cp]).all (· < 0x110000) = true
            simpa using hm
      · exact q.elim
    · cases h
  · rcases hc with hc | ⟨_, _, _, _, q⟩
    · simp only [VRep] at hc
    · exact q.elim
  · cases h

noncomputable abbrev RS (C : Cx) : Wd → Heap → AV × AV → Value → Prop := fun W h p v => ∃ sl vl vu, v = .ref sl ∧ h.IsSliceOf sl vl vu .none ∧ VRep C W.g W.labs p.1 vl ∧ VRep C W.g W.labs p.2 vu
noncomputable abbrev SndO (C : Cx) (n : Nat) (sc : List (Str × NameKind)) (e : Option Expr) (d : D AV) : Prop := ∀ (X : Fx) (W : Wd) (S : S) (s : Shared), FxOk C n X sc → Inv C X W S s → Snd C X true (RV C) (valueOrNone (evalOpt e X.env)) d W S s
theorem sndO_none : SndO C n sc none (pur .none) := fun X W S s F I => Snd.pure I (by simp only [VRep])
theorem sndO_some {e : Expr} {d : D AV} (h : SndE C n sc e d) : SndO C n sc (some e) d := fun X W S s F I => h X W S s F I
theorem snd_slice {lo hi : Option Expr} {p : Pos} {dl dh : D AV} (hl : SndO C n sc lo dl) (hh : SndO C n sc hi dh) (X : Fx) (W : Wd) (S : S) (s : Shared) (F : FxOk C n X sc) (I : Inv C X W S s) :
    Snd C X true (RS C) (eval (.Slice lo hi none p) X.env) (bnd dl fun a => bnd dh fun b => pur (a, b)) W S s := by
  rw [arm_eval_Slice]
  refine Snd.bind (hl X W S s F I) fun a va W₁ S₁ s₁ l₁ I₁ r₁ _ => ?_
  refine Snd.bind (hh X W₁ S₁ s₁ F I₁).holding fun b vb W₂ S₂ s₂ l₂ I₂ r₂ _ => ?_
  refine Snd.step (wpAny_holding (wpAny_pure ⟨W₂, .refl, I₂, ?_⟩))
  show wpAny _ _ _ _ _ _
  exact wpAny_newObj_type ⟨W₂, .refl, I₂.heap (tk := s₂.toks) .push, _, va, vb, rfl, Heap.IsSliceOf.new .., VRep.le r₁ l₂, r₂⟩
theorem part_of {W : Wd} {a : AV} {v : Value} {k : Option Int} (r : VRep C W.g W.labs a v) (h : partOf a = some k) : IsPart v k := by
  unfold partOf at h
  split at h <;> cases h <;> simp only [VRep] at r
  · subst r; exact .none
  · obtain ⟨t, rfl⟩ := r; exact .int _ t

theorem wp_slc {X : Fx} {W : Wd} {S : S} {s : Shared} {v : Expr} {lo hi : Option Expr} {p : Pos} {c r : AV} {ab : AV × AV} {va vi : Value} (I : Inv C X W S s) (hc : RP C W s.heap c va) (hi' : RS C W s.heap ab vi) (h : slcV c ab.1 ab.2 = some r) :
    wpAny C.M X.A (subscriptTail v (.Slice lo hi none p) va vi) (Pst C X W S r) (fun _ _ => False) s := by
  obtain ⟨sl, vl, vu, rfl, hs, h1, h2⟩ := hi'
  unfold slcV at h
  split at h
  · rename_i l
    split at h
    · rename_i a e1 e2
      split at h
      · rename_i ha
        cases h
        obtain ⟨ad, vs, n, rfl, had, hsz, hv⟩ := hc.tup I
        have hlen := hv.length
        rw [Array.length_toList] at hlen
        rw [e1] at h1; rw [e2] at h2
        simp only [VRep] at h1 h2
        obtain ⟨u, rfl⟩ := h1
        subst h2
        have e3 : a = ((a.toNat : Nat) : Int) := by omega
        rw [e3] at hs
        refine tail_any (T := "tuple") ⟨_, had, rfl⟩ F.slot_tuple_getitem.lookup (getItem_tuple_from (items := vs) ⟨_, had, rfl, n, rfl⟩ hs (by omega) (by omega) ?_ hsz) rfl
        refine I.newTup (tk := s.toks) (vs := (vs.toList.drop a.toNat).toArray) (by simp; omega) ?_ .push get?_size (Heap.get?_push_size _ rfl)
        simpa using hv.drop a.toNat
      · cases h
    · cases h
  · rename_i l
    unfold sliceL at h
    cases e1 : partOf ab.1 with
    | none => rw [e1] at h; cases h
    | some lo' =>
      cases e2 : partOf ab.2 with
      | none => rw [e1, e2] at h; cases h
      | some hi'' =>
        rw [e1, e2] at h
        cases h
        obtain ⟨ad, vs, rfl, had, hsz, hv⟩ := hc.seq I
        have hlen := hv.length
        rw [Array.length_toList] at hlen
        refine tail_any had.isList.typeIs F.slot_list_getitem.lookup (wpAny_getItem_list_slice had.isList hs (part_of h1 e1) (part_of h2 e2) .none (fun q => nomatch q) ?_ hsz) rfl
        refine I.newLst (tk := s.toks) (vs := slicePick vs lo' hi'' none) (Nat.le_trans (slicePick_size_le ..) hsz) ?_ .push get?_size (Heap.get?_push_size _ rfl)
        rw [slicePick_plain, hlen]
        simpa using (hv.drop _).take _
  · cases h

theorem snd_sub_slice (K : CxOk C) (hT : CtxOk C T) {v : Expr} {lo hi : Option Expr} {p q : Pos} {dv dl dh : D AV} (hv : SndE C n sc v dv) (hl : SndO C n sc lo dl) (hh : SndO C n sc hi dh) :
    SndE C n sc (.Subscript v (.Slice lo hi none q) p) (withBase T sc v dv (bnd dl fun a => bnd dh fun b => pur (a, b)) fun c p => slcV c p.1 p.2) :=
  snd_withBase K hT hv (fun X W S s F I => snd_slice hl hh X W S s F I) fun X W S s c va i vi r F I h1 h2 h3 => wp_slc I h1 h2 h3
theorem snd_sub_idx (K : CxOk C) (hT : CtxOk C T) {v i : Expr} {p : Pos} {dv di : D AV} (hsl : ∀ a b p, i ≠ .Slice a b none p) (hv : SndE C n sc v dv) (hi : SndE C n sc i di) : SndE C n sc (.Subscript v i p) (withBase T sc v dv di idxV) :=
  snd_withBase K hT hv hi fun X W S s c va i vi r F I h1 h2 h3 => wp_idx hsl I h1 h2 h3
end
end Mine
end
section
set_option autoImplicit false
set_option linter.unusedVariables false
namespace Mine
open PySem PyProof.Rows

noncomputable def dropOwn (x : Str) : Option Role → Option Role
  | some (.own y) => if y = x then none else some (.own y)
  | r => r
theorem dropOwn_ne {x : Str} {r : Role} (h : r ≠ .own x) : dropOwn x (some r) = some r := by
  cases r <;> first | rfl | skip
  rename_i y
  show (if y = x then none else some (Role.own y)) = _
  rw [if_neg (fun q => h (by rw [q]))]
theorem dropOwn_some {x : Str} {o : Option Role} {r : Role} (h : dropOwn x o = some r) : o = some r ∧ r ≠ .own x := by
  cases o with
  | none => cases h
  | some q =>
    by_cases hq : ∃ y, q = .own y
    · obtain ⟨y, rfl⟩ := hq
      have h' : (if y = x then none else some (Role.own y)) = some r := h
      split at h'
      · cases h'
      · rename_i hn; cases h'; exact ⟨rfl, fun q => hn (by cases q; rfl)⟩
    · have h' : some q = some r := by
        cases q <;> first | exact h | exact absurd ⟨_, rfl⟩ hq
      cases h'
      exact ⟨rfl, fun z => hq ⟨x, z⟩⟩

/-- x is stored: it holds v, and owns what stands at n -/
noncomputable def Wd.asg (W : Wd) (x : Str) (v : Value) (n : Option Addr) : Wd :=
  { W with val := fun y => if y = x then some v else W.val y, role := fun b => if n = some b then some (.own x) else dropOwn x (W.role b) }

section
variable {C : Cx} {X : Fx} {W : Wd} {S : S} {s : Shared}
theorem LRep.simAt {h h' : Heap} {r : Role} {lv : LV} {v : Value} (x : LRep C W h r lv v) (k : ∀ a o, W.role a = some r → h.get? a = some o → h'.get? a = some o) : LRep C W h' r lv v := by
  cases lv with
  | val a => exact x
  | own c =>
    obtain ⟨a, h1, h2, h3⟩ := x
    exact ⟨a, h1, h2, h3.sim fun o e => k a o h2 e⟩
theorem ORep.simAt {h h' : Heap} {n : Nat} {a : Addr} {o : AO} (x : ORep C W h n a o) (k : ∀ a r o, W.role a = some r → (r = .cel n ∨ r = .fld n ∨ ∃ f, r = .fown n f) → h.get? a = some o → h'.get? a = some o) : ORep C W h' n a o := by
  cases o with
  | cont c => exact ⟨x.1, x.2.sim fun o e => k a _ o x.1 (.inl rfl) e⟩
  | flds l =>
    obtain ⟨h1, m, h2, h3, h4⟩ := x
    exact ⟨h1, m, h2.at' fun o e => k a _ o h1 (.inr (.inl rfl)) e, h3, fun f lv e => let ⟨v, q1, q2⟩ := h4 f lv e; ⟨v, q1, q2.simAt fun a o r e => k a _ o r (.inr (.inr ⟨f, rfl⟩)) e⟩⟩

theorem Inv.asg (I : Inv C X W S s) {x : Str} {v : Value} {n : Option Addr} {lv : LV} {h' : Heap} {tk : Nat} {wa : Addr} {wr : Role}
    (hwa : W.role wa = some wr) (hwr : wr = .loc ∨ wr = .cell x)
    (hk : ∀ b o, b ≠ wa → s.heap.get? b = some o → h'.get? b = some o)
    (hwo : ∃ o, h'.get? wa = some o ∧ ∀ vs, o.data ≠ .fields vs)
    (hns : ∃ m, h'.Ns X.env.locals m ∧ ∀ y, X.env.kindOf y = some .local → m y = (W.asg x v n).val y)
    (hcells : ∀ y c, X.env.cells.lookup y = some c → (X.env.kindOf y = some .cell ∨ X.env.kindOf y = some .free) → h'.IsCell c ((W.asg x v n).val y))
    (hn : ∀ a, n = some a → W.g a = none ∧ W.role a = none ∧ ∃ o, s.heap.get? a = some o ∧ ∀ vs, o.data ≠ .fields vs)
    (hlv : LRep C (W.asg x v n) h' (.own x) lv v) :
    Inv C X (W.asg x v n) { S with loc := setA x lv S.loc } { s with heap := h', toks := tk } ∧ W.le false (W.asg x v n) := by
  have hrole : ∀ {b : Addr} {r : Role}, W.role b = some r → r ≠ .own x → (W.asg x v n).role b = some r := fun {b r} h1 h2 => by
    show (if n = some b then _ else dropOwn x (W.role b)) = _
    rw [if_neg (fun q => by have := (hn b q).2.1; rw [h1] at this; cases this), h1]
    exact dropOwn_ne h2
  have hback : ∀ {b : Addr} {r : Role}, (W.asg x v n).role b = some r → (n = some b ∧ r = .own x) ∨ (W.role b = some r ∧ r ≠ .own x) := fun {b r} h1 => by
    have h1' : (if n = some b then some (Role.own x) else dropOwn x (W.role b)) = some r := h1
    split at h1'
    · rename_i q; cases h1'; exact .inl ⟨q, rfl⟩
    · exact .inr (dropOwn_some h1')
  have hwne : ∀ {b : Addr} {r : Role}, W.role b = some r → r ≠ wr → b ≠ wa := fun {b r} h1 h2 q => by subst q; rw [hwa] at h1; exact h2 (Option.some.inj h1).symm
  have hgne : ∀ {b : Addr} {o : Obj}, W.g b = some o → b ≠ wa := fun {b o} h1 q => by subst q; rw [(I.apart _ _ hwa).1] at h1; cases h1
  refine ⟨?_, ⟨fun _ _ h => h, ⟨[], (List.append_nil _).symm⟩, fun b o h => hrole h (fun q => nomatch q), fun b o h => hrole h (fun q => nomatch q), fun q => nomatch q⟩⟩
  exact {
    stat := I.stat
    sh := by obtain ⟨h, t, e⟩ := I.sh; exact ⟨h', tk, by rw [e]⟩
    keeps := fun b o e => hk b o (hgne e) (I.keeps b o e)
    apart := fun b r e => by
      rcases hback e with ⟨q1, q2⟩ | ⟨q1, q2⟩
      · obtain ⟨h1, h2, o, h3, h4⟩ := hn b q1
        exact ⟨h1, o, hk b o (fun q => by rw [q, hwa] at h2; cases h2) h3, fun _ => h4⟩
      · obtain ⟨h1, o, h2, h3⟩ := I.apart b r q1
        refine ⟨h1, ?_⟩
        by_cases hb : b = wa
        · subst hb; exact let ⟨o, q1, q2⟩ := hwo; ⟨o, q1, fun _ => q2⟩
        · exact ⟨o, hk b o hb h2, h3⟩
    kept := fun b o e => by
      rcases hback e with ⟨q1, q2⟩ | ⟨q1, q2⟩
      · cases q2
      · obtain ⟨sl, h1⟩ := I.kept b o q1
        refine ⟨sl, hk b _ (hwne q1 ?_) h1⟩
        rcases hwr with rfl | rfl <;> exact fun q => nomatch q
    held := fun b o e => by
      rcases hback e with ⟨q1, q2⟩ | ⟨q1, q2⟩
      · cases q2
      · refine hk b _ (hwne q1 ?_) (I.held b o q1)
        rcases hwr with rfl | rfl <;> exact fun q => nomatch q
    frs := fun e he => by
      obtain ⟨h1, L, h2, h3⟩ := I.frs e he
      exact ⟨h1, L, h2, h3.imp (fun q => hrole q (fun q => nomatch q)) fun ⟨o, q⟩ => ⟨o, hrole q (fun q => nomatch q)⟩⟩
    rloc := hrole I.rloc (fun q => nomatch q)
    ns := hns
    cells := fun y c e => by
      obtain ⟨h1, h2, h3⟩ := I.cells y c e
      exact ⟨fun q => hrole (h1 q) (fun q => nomatch q), fun q => let ⟨o, z⟩ := h2 q; ⟨o, hrole z (fun q => nomatch q)⟩, hcells y c e⟩
    vars := fun y lv' e => by
      by_cases hy : y = x
      · subst hy
        rw [show getA y (setA y lv S.loc) = some lv from getA_setA] at e
        cases e
        exact ⟨v, by show (if y = y then some v else _) = _; rw [if_pos rfl], hlv⟩
      · rw [show getA y (setA x lv S.loc) = getA y S.loc from getA_setA_ne hy] at e
        obtain ⟨v', h1, h2⟩ := I.vars y lv' e
        refine ⟨v', by show (if y = x then some v else W.val y) = _; rw [if_neg hy]; exact h1, ?_⟩
        refine (h2.simAt fun a o q z => hk a o (hwne q (by rcases hwr with rfl | rfl <;> exact fun q => nomatch q)) z).grow (fun _ _ q => q) ⟨[], (List.append_nil _).symm⟩ fun a q => hrole q (fun z => hy (by cases z; rfl))
    lab := I.lab
    objs := fun m o e => by
      obtain ⟨a, h1, h2⟩ := I.objs m o e
      refine ⟨a, h1, (h2.simAt fun a r o q hr z => hk a o (hwne q ?_) z).grow (fun _ _ q => q) ⟨[], (List.append_nil _).symm⟩ fun a r q hr => hrole q ?_⟩
      · rcases hr with rfl | rfl | ⟨f, rfl⟩ <;> rcases hwr with rfl | rfl <;> exact fun q => nomatch q
      · rcases hr with rfl | rfl | ⟨f, rfl⟩ <;> exact fun q => nomatch q }

/-- a store to a local name -/
theorem wp_store {k : Nat} {sc : List (Str × NameKind)} {x : Str} {v : Value} {n : Option Addr} {lv : LV} {E : Value → Shared → Prop} {Q : Unit → Shared → Prop} (F : FxOk C k X sc) (I : Inv C X W S s) (hst : sc.lookup x = some .local ∨ (X.fn = true ∧ sc.lookup x = some .cell))
    (hn : ∀ a, n = some a → W.g a = none ∧ W.role a = none ∧ ∃ o, s.heap.get? a = some o ∧ ∀ vs, o.data ≠ .fields vs)
    (hlv : ∀ h', (∀ b o, W.role b ≠ some .loc → W.role b ≠ some (.cell x) → s.heap.get? b = some o → h'.get? b = some o) → LRep C (W.asg x v n) h' (.own x) lv v)
    (hQ : ∀ s', W.le false (W.asg x v n) → Inv C X (W.asg x v n) { S with loc := setA x lv S.loc } s' → Q () s') : wpAny C.M X.A (storeName X.env x v) Q E s := by
  obtain ⟨m, hns, hm⟩ := I.ns
  rcases hst with key | ⟨hfn', key⟩
  · have hk := F.loc x key
    refine wpAny_storeName_local hk hns (fun h' hn' hs' => ?_) (by rw [F.kind]; rfl)
    have hk' : ∀ b o, b ≠ X.env.locals → s.heap.get? b = some o → h'.get? b = some o := fun b o hb e => (hs'.2 b hb).trans e
    have hcell : ∀ y c, X.env.cells.lookup y = some c → (X.env.kindOf y = some .cell ∨ X.env.kindOf y = some .free) → h'.IsCell c ((W.asg x v n).val y) := fun y c e q => by
      obtain ⟨h1, h2, h3⟩ := I.cells y c e
      have hyx : y ≠ x := fun z => by subst z; rw [hk] at q; rcases q with q | q <;> cases q
      obtain ⟨o, o1, o2⟩ := h3 q
      refine ⟨o, hk' c o (fun z => ?_) o1, ?_⟩
      · subst z
        cases hx : X.fn with
        | true => have := h1 hx; rw [I.rloc] at this; cases this
        | false => obtain ⟨_, this⟩ := h2 hx; rw [I.rloc] at this; cases this
      · rw [o2]; show Data.cell (W.val y) = Data.cell (if y = x then some v else W.val y); rw [if_neg hyx]
    obtain ⟨I', l'⟩ := I.asg (x := x) (v := v) (n := n) (lv := lv) (h' := h') (tk := s.toks + 1) I.rloc (.inl rfl) hk' (by
        obtain ⟨o, es, ep, h1, h2, _⟩ := hn'
        exact ⟨o, h1, fun vs q => by rw [h2] at q; cases q⟩) ⟨_, hn', fun y hy => by
          show (if y = x then some v else m y) = (if y = x then some v else W.val y)
          by_cases hq : y = x
          · rw [if_pos hq, if_pos hq]
          · rw [if_neg hq, if_neg hq]; exact hm y hy⟩ hcell hn (hlv h' fun b o q1 _ e => hk' b o (fun z => q1 (by rw [z]; exact I.rloc)) e)
    exact hQ _ l' I'
  · obtain ⟨_, c, hc⟩ := F.cel x (.inl key)
    have hk := F.fcell hfn' x key
    obtain ⟨h1, h2, h3⟩ := I.cells x c hc
    have hrc := h1 hfn'
    have fin : ∀ h', h'.IsCell c (some v) → Heap.SameBut c s.heap h' → Q () { s with heap := h' } := fun h' hcl hs' => by
      have hk' : ∀ b o, b ≠ c → s.heap.get? b = some o → h'.get? b = some o := fun b o hb e => (hs'.2 b hb).trans e
      have hcell : ∀ y c', X.env.cells.lookup y = some c' → (X.env.kindOf y = some .cell ∨ X.env.kindOf y = some .free) → h'.IsCell c' ((W.asg x v n).val y) := fun y c' e q => by
        by_cases hyx : y = x
        · subst hyx
          rw [hc] at e; cases e
          rw [show (W.asg y v n).val y = some v from if_pos rfl]; exact hcl
        · obtain ⟨q1, q2, q3⟩ := I.cells y c' e
          obtain ⟨o, o1, o2⟩ := q3 q
          refine ⟨o, hk' c' o (fun z => ?_) o1, ?_⟩
          · subst z; have := q1 hfn'; rw [hrc] at this; cases this; exact hyx rfl
          · rw [o2]; show Data.cell (W.val y) = Data.cell (if y = x then some v else W.val y); rw [if_neg hyx]
      obtain ⟨I', l'⟩ := I.asg (x := x) (v := v) (n := n) (lv := lv) (h' := h') (tk := s.toks) hrc (.inr rfl) hk' (by
          obtain ⟨o, q1, q2⟩ := hcl
          exact ⟨o, q1, fun vs q => by rw [q2] at q; cases q⟩) ⟨m, hns.at' fun o e => hk' _ o (fun z => by have := I.rloc; rw [z, hrc] at this; cases this) e, fun y hy => by
            show m y = (if y = x then some v else W.val y)
            rw [if_neg (fun z => by subst z; rw [hy] at hk; cases hk)]; exact hm y hy⟩ hcell hn
        (hlv h' fun b o _ q2 e => hk' b o (fun z => q2 (by rw [z]; exact hrc)) e)
      exact hQ _ l' I'
    exact wpAny_storeName_cell F.kind hk hc (h3 (.inl hk)) fun h' a b => fin h' a b
end
end Mine
end
section
set_option autoImplicit false
set_option linter.unusedVariables false
namespace Mine
open PySem PyProof.Rows

/-- between frames: nothing is a frame's own -/
structure InvC (C : Cx) (frs : List Env) (W : Wd) (st : St) (s : Shared) : Prop where
  stat : Stat C W.g
  sh : ∃ h tk, s = { C.s0 with heap := h, toks := tk }
  keeps : ∀ b o, W.g b = some o → s.heap.get? b = some o
  apart : ∀ b r, W.role b = some r → W.g b = none ∧ ∃ o, s.heap.get? b = some o ∧ ((∀ q, r ≠ .held q) → ∀ vs, o.data ≠ .fields vs)
  kept : ∀ b o, W.role b = some (.kept o) → ∃ sl, s.heap.get? b = some { o with slots := sl }
  held : ∀ b o, W.role b = some (.held o) → s.heap.get? b = some o
  frs : ∀ e ∈ frs, e.scope.kind ≠ .module ∧ ∃ L o, e.frame = some L ∧ W.role L = some (.kept o)
  nof : ∀ b r, W.role b = some r → r ≠ .loc ∧ (∀ x, r ≠ .cell x) ∧ ∀ x, r ≠ .own x
  lab : st.length = W.labs.length
  objs : ∀ n o, st[n]? = some o → ∃ a, W.labs[n]? = some a ∧ ORep C W s.heap n a o

noncomputable def suspR (h : Heap) (b : Addr) : Option Role → Option Role
  | some .loc => (h.get? b).map .kept
  | some (.cell _) => (h.get? b).map .held
  | some (.own _) => (h.get? b).map .held
  | r => r
noncomputable def Wd.susp (W : Wd) (h : Heap) : Wd := { W with role := fun b => suspR h b (W.role b) }
noncomputable def resR (r₀ r : Option Role) : Option Role :=
  match r₀ with
  | some .loc => some .loc
  | some (.cell x) => some (.cell x)
  | some (.own x) => some (.own x)
  | _ => r
/-- the caller's frame again, behind a call that ended in W' -/
noncomputable def Wd.res (W W' : Wd) : Wd := { W' with val := W.val, role := fun b => resR (W.role b) (W'.role b) }

section
variable {C : Cx} {X : Fx} {W : Wd} {S : S} {s : Shared}

theorem suspR_some {h : Heap} {b : Addr} {o : Option Role} {r : Role} (e : suspR h b o = some r) :
    (o = some r ∧ r ≠ .loc ∧ (∀ x, r ≠ .cell x) ∧ ∀ x, r ≠ .own x) ∨ (o = some .loc ∧ ∃ ob, h.get? b = some ob ∧ r = .kept ob) ∨ (((∃ x, o = some (.cell x)) ∨ ∃ x, o = some (.own x)) ∧ ∃ ob, h.get? b = some ob ∧ r = .held ob) := by
  cases o with
  | none => cases e
  | some q =>
    cases q
    case fld n => have e' : some (Role.fld n) = some r := e; cases e'; exact .inl ⟨rfl, fun z => (nomatch z), fun _ z => (nomatch z), fun _ z => (nomatch z)⟩
    case fown n f => have e' : some (Role.fown n f) = some r := e; cases e'; exact .inl ⟨rfl, fun z => (nomatch z), fun _ z => (nomatch z), fun _ z => (nomatch z)⟩
    case cel n => have e' : some (Role.cel n) = some r := e; cases e'; exact .inl ⟨rfl, fun z => (nomatch z), fun _ z => (nomatch z), fun _ z => (nomatch z)⟩
    case kept n => have e' : some (Role.kept n) = some r := e; cases e'; exact .inl ⟨rfl, fun z => (nomatch z), fun _ z => (nomatch z), fun _ z => (nomatch z)⟩
    case held n => have e' : some (Role.held n) = some r := e; cases e'; exact .inl ⟨rfl, fun z => (nomatch z), fun _ z => (nomatch z), fun _ z => (nomatch z)⟩
    · refine .inr (.inl ⟨rfl, ?_⟩)
      have e' : (h.get? b).map Role.kept = some r := e
      cases hb : h.get? b with
      | none => rw [hb] at e'; cases e'
      | some ob => rw [hb] at e'; cases e'; exact ⟨ob, rfl, rfl⟩
    · refine .inr (.inr ⟨.inl ⟨_, rfl⟩, ?_⟩)
      have e' : (h.get? b).map Role.held = some r := e
      cases hb : h.get? b with
      | none => rw [hb] at e'; cases e'
      | some ob => rw [hb] at e'; cases e'; exact ⟨ob, rfl, rfl⟩
    · refine .inr (.inr ⟨.inr ⟨_, rfl⟩, ?_⟩)
      have e' : (h.get? b).map Role.held = some r := e
      cases hb : h.get? b with
      | none => rw [hb] at e'; cases e'
      | some ob => rw [hb] at e'; cases e'; exact ⟨ob, rfl, rfl⟩
theorem susp_same {h : Heap} {b : Addr} {r : Role} (e : W.role b = some r) (h1 : r ≠ .loc) (h2 : ∀ x, r ≠ .cell x) (h3 : ∀ x, r ≠ .own x) : (W.susp h).role b = some r := by
  show suspR h b (W.role b) = _
  rw [e]
  cases r <;> first | rfl | exact absurd rfl h1 | exact absurd rfl (h2 _) | exact absurd rfl (h3 _)

theorem Inv.susp (I : Inv C X W S s) : InvC C X.frs (W.susp s.heap) S.st s where
  stat := I.stat
  sh := I.sh
  keeps := I.keeps
  apart := fun b r e => by
    rcases suspR_some e with ⟨h1, _⟩ | ⟨h1, ob, _, rfl⟩ | ⟨⟨_, h1⟩ | ⟨_, h1⟩, ob, _, rfl⟩
    · exact I.apart b r h1
    · obtain ⟨q1, o, q2, q3⟩ := I.apart b _ h1; exact ⟨q1, o, q2, fun _ => q3 fun _ z => (nomatch z)⟩
    · obtain ⟨q1, o, q2, q3⟩ := I.apart b _ h1; exact ⟨q1, o, q2, fun z => absurd rfl (z ob)⟩
    · obtain ⟨q1, o, q2, q3⟩ := I.apart b _ h1; exact ⟨q1, o, q2, fun z => absurd rfl (z ob)⟩
  kept := fun b o e => by
    rcases suspR_some e with ⟨h1, _⟩ | ⟨h1, ob, h2, h3⟩ | ⟨_, ob, h2, h3⟩
    · exact I.kept b o h1
    · cases h3; exact ⟨o.slots, h2⟩
    · cases h3
  held := fun b o e => by
    rcases suspR_some e with ⟨h1, _⟩ | ⟨h1, ob, h2, h3⟩ | ⟨_, ob, h2, h3⟩
    · exact I.held b o h1
    · cases h3
    · cases h3; exact h2
  frs := fun e he => by
    obtain ⟨h1, L, h2, h3 | ⟨o, h3⟩⟩ := I.frs e he
    · obtain ⟨o, h4, _⟩ := (I.apart _ _ h3).2
      exact ⟨h1, L, o, h2, by show suspR _ _ (W.role L) = _; rw [h3]; show (s.heap.get? L).map Role.kept = _; rw [h4]; rfl⟩
    · exact ⟨h1, L, o, h2, susp_same h3 (fun z => (nomatch z)) (fun _ z => (nomatch z)) (fun _ z => (nomatch z))⟩
  nof := fun b r e => by
    rcases suspR_some e with ⟨_, h1⟩ | ⟨_, ob, _, rfl⟩ | ⟨_, ob, _, rfl⟩
    · exact h1
    · exact ⟨fun z => (nomatch z), fun _ z => (nomatch z), fun _ z => (nomatch z)⟩
    · exact ⟨fun z => (nomatch z), fun _ z => (nomatch z), fun _ z => (nomatch z)⟩
  lab := I.lab
  objs := fun n o e => by
    obtain ⟨a, h1, h2⟩ := I.objs n o e
    refine ⟨a, h1, h2.grow (W' := W.susp s.heap) (fun _ _ q => q) ⟨[], (List.append_nil _).symm⟩ fun a r q hr => susp_same q ?_ ?_ ?_⟩
    · rintro rfl; rcases hr with z | z | ⟨_, z⟩ <;> cases z
    · rintro x rfl; rcases hr with z | z | ⟨_, z⟩ <;> cases z
    · rintro x rfl; rcases hr with z | z | ⟨_, z⟩ <;> cases z

theorem Inv.res (I : Inv C X W S s) {W' : Wd} {st' : St} {s' : Shared} {ev : Bool} (l : (W.susp s.heap).le ev W') (I' : InvC C X.frs W' st' s') :
    Inv C X (W.res W') ⟨S.loc, st'⟩ s' ∧ W.le true (W.res W') := by
  have hres : ∀ {b : Addr} {r : Role}, (W.res W').role b = some r →
      (W.role b = some r ∧ (r = .loc ∨ (∃ x, r = .cell x) ∨ ∃ x, r = .own x)) ∨ (W'.role b = some r ∧ W.role b ≠ some .loc ∧ (∀ x, W.role b ≠ some (.cell x)) ∧ ∀ x, W.role b ≠ some (.own x)) := fun {b r} e => by
    have e' : resR (W.role b) (W'.role b) = some r := e
    cases hb : W.role b with
    | none => rw [hb] at e'; exact .inr ⟨e', fun z => (nomatch z), fun _ z => (nomatch z), fun _ z => (nomatch z)⟩
    | some q =>
      rw [hb] at e'
      cases q <;> first
        | exact .inr ⟨e', fun z => (nomatch z), fun _ z => (nomatch z), fun _ z => (nomatch z)⟩
        | skip
      · cases e'; exact .inl ⟨rfl, .inl rfl⟩
      · cases e'; exact .inl ⟨rfl, .inr (.inl ⟨_, rfl⟩)⟩
      · cases e'; exact .inl ⟨rfl, .inr (.inr ⟨_, rfl⟩)⟩
  have hmine : ∀ {b : Addr} {r : Role}, W.role b = some r → (r = .loc ∨ (∃ x, r = .cell x) ∨ ∃ x, r = .own x) → (W.res W').role b = some r := fun {b r} e hr => by
    show resR (W.role b) _ = _
    rw [e]; rcases hr with rfl | ⟨_, rfl⟩ | ⟨_, rfl⟩ <;> rfl
  have hyours : ∀ {b : Addr} {r : Role}, W'.role b = some r → (W.role b = none ∨ ∃ r', W.role b = some r' ∧ r' ≠ .loc ∧ (∀ x, r' ≠ .cell x) ∧ ∀ x, r' ≠ .own x) → (W.res W').role b = some r := fun {b r} e hr => by
    show resR (W.role b) _ = _
    rcases hr with hr | ⟨r', hr, h1, h2, h3⟩
    · rw [hr]; exact e
    · rw [hr]; cases r' <;> first | exact e | exact absurd rfl h1 | exact absurd rfl (h2 _) | exact absurd rfl (h3 _)
  -- what was the frame's stands as it stood
  have locK : ∀ {b : Addr}, W.role b = some .loc → ∃ o, s.heap.get? b = some o ∧ W'.role b = some (.kept o) ∧ ∃ sl, s'.heap.get? b = some { o with slots := sl } := fun {b} e => by
    obtain ⟨o, h1, _⟩ := (I.apart b _ e).2
    have h2 : (W.susp s.heap).role b = some (.kept o) := by show suspR _ _ (W.role b) = _; rw [e]; show (s.heap.get? b).map Role.kept = _; rw [h1]; rfl
    have h3 := l.kept b o h2
    exact ⟨o, h1, h3, I'.kept b o h3⟩
  have helK : ∀ {b : Addr} {r : Role}, W.role b = some r → ((∃ x, r = .cell x) ∨ ∃ x, r = .own x) → ∃ o, s.heap.get? b = some o ∧ W'.role b = some (.held o) ∧ s'.heap.get? b = some o := fun {b r} e hr => by
    obtain ⟨o, h1, _⟩ := (I.apart b _ e).2
    have h2 : (W.susp s.heap).role b = some (.held o) := by
      show suspR _ _ (W.role b) = _
      rw [e]; rcases hr with ⟨_, rfl⟩ | ⟨_, rfl⟩ <;> (show (s.heap.get? b).map Role.held = _; rw [h1]; rfl)
    have h3 := l.held b o h2
    exact ⟨o, h1, h3, I'.held b o h3⟩
  have keepK : ∀ {b : Addr} {o : Obj}, W.role b = some (.kept o) → W'.role b = some (.kept o) := fun {b o} e => l.kept b o (susp_same e (fun z => (nomatch z)) (fun _ z => (nomatch z)) (fun _ z => (nomatch z)))
  have heldK : ∀ {b : Addr} {o : Obj}, W.role b = some (.held o) → W'.role b = some (.held o) := fun {b o} e => l.held b o (susp_same e (fun z => (nomatch z)) (fun _ z => (nomatch z)) (fun _ z => (nomatch z)))
  refine ⟨?_, l.g, l.labs, fun b o e => hyours (keepK e) (.inr ⟨_, e, fun z => (nomatch z), fun _ z => (nomatch z), fun _ z => (nomatch z)⟩), fun b o e => hyours (heldK e) (.inr ⟨_, e, fun z => (nomatch z), fun _ z => (nomatch z), fun _ z => (nomatch z)⟩), fun _ => rfl⟩
  exact {
    stat := I'.stat
    sh := I'.sh
    keeps := I'.keeps
    apart := fun b r e => by
      rcases hres e with ⟨h1, h2⟩ | ⟨h1, _⟩
      · rcases h2 with rfl | h2
        · obtain ⟨o, q1, q2, q3⟩ := locK h1
          obtain ⟨z1, o', z2, z3⟩ := I'.apart b _ q2
          exact ⟨z1, o', z2, fun _ => z3 fun _ z => (nomatch z)⟩
        · obtain ⟨o, q1, q2, q3⟩ := helK h1 h2
          obtain ⟨z1, o', z2, z3⟩ := I.apart b _ h1
          rw [q1] at z2; cases z2
          exact ⟨(I'.apart b _ q2).1, o, q3, z3⟩
      · exact I'.apart b r h1
    kept := fun b o e => by
      rcases hres e with ⟨h1, h2⟩ | ⟨h1, _⟩
      · rcases h2 with h2 | ⟨_, h2⟩ | ⟨_, h2⟩ <;> cases h2
      · exact I'.kept b o h1
    held := fun b o e => by
      rcases hres e with ⟨h1, h2⟩ | ⟨h1, _⟩
      · rcases h2 with h2 | ⟨_, h2⟩ | ⟨_, h2⟩ <;> cases h2
      · exact I'.held b o h1
    frs := fun e he => by
      obtain ⟨h1, L, h2, h3 | ⟨o, h3⟩⟩ := I.frs e he
      · exact ⟨h1, L, h2, .inl (hmine h3 (.inl rfl))⟩
      · exact ⟨h1, L, h2, .inr ⟨o, hyours (keepK h3) (.inr ⟨_, h3, fun z => (nomatch z), fun _ z => (nomatch z), fun _ z => (nomatch z)⟩)⟩⟩
    rloc := hmine I.rloc (.inl rfl)
    ns := by
      obtain ⟨m, h1, h2⟩ := I.ns
      obtain ⟨o, q1, q2, sl, q3⟩ := locK I.rloc
      obtain ⟨o', es, ep, e1, e2, e3, e4⟩ := h1
      rw [q1] at e1; cases e1
      exact ⟨m, ⟨_, es, ep, q3, e2, e3, e4⟩, h2⟩
    cells := fun x c e => by
      obtain ⟨h1, h2, h3⟩ := I.cells x c e
      refine ⟨fun q => hmine (h1 q) (.inr (.inl ⟨_, rfl⟩)), fun q => let ⟨o, z⟩ := h2 q; ⟨o, hyours (heldK z) (.inr ⟨_, z, fun z => (nomatch z), fun _ z => (nomatch z), fun _ z => (nomatch z)⟩)⟩, fun q => ?_⟩
      obtain ⟨o, q1, q2⟩ := h3 q
      refine ⟨o, ?_, q2⟩
      cases hx : X.fn with
      | true => obtain ⟨o', z1, z2, z3⟩ := helK (h1 hx) (.inl ⟨_, rfl⟩); rw [q1] at z1; cases z1; exact z3
      | false => obtain ⟨o', z⟩ := h2 hx; have z1 := I'.held c o' (heldK z); have z2 := I.held c o' z; rw [q1] at z2; cases z2; exact z1
    vars := fun x lv e => by
      obtain ⟨v, h1, h2⟩ := I.vars x lv e
      refine ⟨v, h1, ?_⟩
      cases lv with
      | val a => exact VRep.mono l.g l.labs h2
      | own c =>
        obtain ⟨a, q1, q2, q3⟩ := h2
        obtain ⟨o, z1, z2, z3⟩ := helK q2 (.inr ⟨_, rfl⟩)
        exact ⟨a, q1, hmine q2 (.inr (.inr ⟨_, rfl⟩)), (q3.sim fun o' e' => by rw [z1] at e'; cases e'; exact z3).grow l.g l.labs⟩
    lab := I'.lab
    objs := fun n o e => by
      obtain ⟨a, h1, h2⟩ := I'.objs n o e
      refine ⟨a, h1, h2.grow (W' := W.res W') (fun _ _ q => q) ⟨[], (List.append_nil _).symm⟩ fun a r q hr => hyours q ?_⟩
      cases hb : W.role a with
      | none => exact .inl rfl
      | some r' =>
        refine .inr ⟨r', rfl, ?_, ?_, ?_⟩
        · rintro rfl; obtain ⟨o, _, z, _⟩ := locK hb; rw [z] at q; cases q; rcases hr with z | z | ⟨_, z⟩ <;> cases z
        · rintro x rfl; obtain ⟨o, _, z, _⟩ := helK hb (.inl ⟨_, rfl⟩); rw [z] at q; cases q; rcases hr with z | z | ⟨_, z⟩ <;> cases z
        · rintro x rfl; obtain ⟨o, _, z, _⟩ := helK hb (.inr ⟨_, rfl⟩); rw [z] at q; cases q; rcases hr with z | z | ⟨_, z⟩ <;> cases z }
end
end Mine
end
section
set_option autoImplicit false
set_option linter.unusedVariables false
namespace Mine
open PySem PyProof.Rows

noncomputable def IsTraced (C : Cx) (W : Wd) (h : Heap) (c : Str) (v : Value) : Prop :=
  ∃ e a oe vs T oT ts fl, v = .ref e ∧ C.clsA c = some a ∧ W.g e = none ∧ W.role e = none ∧ h.get? e = some oe ∧ oe.cls = .ref a ∧ oe.data = .fields vs ∧
    vs[1]? = some (.ref T) ∧ T ≠ e ∧ W.g T = none ∧ W.role T = none ∧ h.get? T = some oT ∧ oT.data = .fields ts ∧ ts[3]? = some fl
theorem IsTraced.weak {C : Cx} {W : Wd} {h : Heap} {c : Str} {v : Value} (x : IsTraced C W h c v) : IsTrace C W h c v := by
  obtain ⟨e, a, oe, vs, T, oT, ts, fl, h1, h2, h3, h4, h5, h6, h7, r⟩ := x
  exact ⟨e, a, oe, vs, h1, h2, h3, h4, h5, h6, h7, .inr ⟨T, oT, ts, fl, r⟩⟩

section
variable {C : Cx} {X : Fx} {W : Wd} {S : S} {s : Shared}

theorem Inv.slots (I : Inv C X W S s) {fs : List Addr} {h' : Heap} {tk : Nat} (hs : Heap.SlotsOnly fs s.heap h') (hf : ∀ b ∈ fs, W.role b = some .loc ∨ ∃ o, W.role b = some (.kept o)) : Inv C X W S { s with heap := h', toks := tk } := by
  have same : ∀ {b : Addr} {o : Obj}, (∀ q : b ∈ fs, False) → s.heap.get? b = some o → h'.get? b = some o := fun {b o} hb e => (hs.2.1 b hb).trans e
  have nf : ∀ {b : Addr} {r : Role}, W.role b = some r → r ≠ .loc → (∀ o, r ≠ .kept o) → (b ∈ fs → False) := fun {b r} e h1 h2 q => by
    rcases hf b q with z | ⟨o, z⟩ <;> rw [e] at z <;> cases z
    · exact h1 rfl
    · exact h2 o rfl
  have ng : ∀ {b : Addr} {o : Obj}, W.g b = some o → (b ∈ fs → False) := fun {b o} e q => by
    rcases hf b q with z | ⟨o, z⟩ <;> rw [(I.apart _ _ z).1] at e <;> cases e
  exact {
    stat := I.stat
    sh := by obtain ⟨h, t, e⟩ := I.sh; exact ⟨h', tk, by rw [e]⟩
    keeps := fun b o e => same (ng e) (I.keeps b o e)
    apart := fun b r e => by
      obtain ⟨h1, o, h2, h3⟩ := I.apart b r e
      obtain ⟨sl, h4⟩ := hs.2.2 b o h2
      exact ⟨h1, _, h4, h3⟩
    kept := fun b o e => by
      obtain ⟨sl, h1⟩ := I.kept b o e
      obtain ⟨sl', h2⟩ := hs.2.2 b _ h1
      exact ⟨sl', h2⟩
    held := fun b o e => same (nf e (fun z => (nomatch z)) (fun _ z => (nomatch z))) (I.held b o e)
    frs := I.frs
    rloc := I.rloc
    ns := by
      obtain ⟨m, ⟨o, es, ep, h1, h2, h3⟩, h4⟩ := I.ns
      obtain ⟨sl, h5⟩ := hs.2.2 _ o h1
      exact ⟨m, ⟨_, es, ep, h5, h2, h3⟩, h4⟩
    cells := fun x c e => by
      obtain ⟨h1, h2, h3⟩ := I.cells x c e
      refine ⟨h1, h2, fun q => ?_⟩
      obtain ⟨o, q1, q2⟩ := h3 q
      obtain ⟨sl, q3⟩ := hs.2.2 c o q1
      exact ⟨_, q3, q2⟩
    vars := fun x lv e => by
      obtain ⟨v, h1, h2⟩ := I.vars x lv e
      exact ⟨v, h1, h2.simAt fun a o r z => same (nf r (fun z => (nomatch z)) (fun _ z => (nomatch z))) z⟩
    lab := I.lab
    objs := fun n o e => by
      obtain ⟨a, h1, h2⟩ := I.objs n o e
      refine ⟨a, h1, h2.simAt fun a r o q hr z => same (nf q ?_ ?_) z⟩
      · rintro rfl; rcases hr with z | z | ⟨_, z⟩ <;> cases z
      · rintro o rfl; rcases hr with z | z | ⟨_, z⟩ <;> cases z }

theorem Inv.funFrames (I : Inv C X W S s) : ∀ l : List Env, (∀ e ∈ l, e ∈ X.frs) → s.heap.FunFrames {} l
  | [], _ => trivial
  | e :: r, h => by
    obtain ⟨h1, L, h2, h3⟩ := I.frs e (h e List.mem_cons_self)
    have : ∃ r', W.role L = some r' := h3.elim (fun q => ⟨_, q⟩) fun ⟨_, q⟩ => ⟨_, q⟩
    have hne : ∃ r', W.role L = some r' ∧ ∀ q, r' ≠ .held q := h3.elim (fun q => ⟨_, q, fun _ z => (nomatch z)⟩) fun ⟨_, q⟩ => ⟨_, q, fun _ z => (nomatch z)⟩
    obtain ⟨r', hr, hnh⟩ := hne
    obtain ⟨_, o, h4, h5⟩ := I.apart L r' hr
    exact ⟨h1, ⟨L, o, h2, rfl, h4, h5 hnh⟩, I.funFrames r fun e' he' => h e' (List.mem_cons_of_mem _ he')⟩

theorem wp_frameOf {n : Nat} {sc : List (Str × NameKind)} {E : Value → Shared → Prop} {Q : Value → Shared → Prop} (F : FxOk C n X sc) (I : Inv C X W S s)
    (h : ∀ L h', X.env.frame = some L → Heap.SlotsOnly (X.frs.filterMap (·.frame)) s.heap h' → Inv C X W S { s with heap := h' } → Q (.ref L) { s with heap := h' }) : wpAny C.M X.A (frameOf X.env) Q E s := by
  obtain ⟨e, r, hfr, hfe⟩ := F.frm
  have hA := F.frames
  rw [hfr] at hA
  unfold PySem.frameOf
  refine wpAny_bind (wpAny_frameEnvs hA ?_)
  have hdw : ((e :: r).dropWhile fun x => x.frame != X.env.frame) = e :: r := by simp [List.dropWhile, hfe]
  rw [hdw]
  unfold frameObject
  refine wpAny_bind (wpAny_bind (wpAny_readyFrames_fun (base := {}) (I.funFrames (e :: r) (by rw [hfr]; exact fun _ h => h)) fun h₁ hs₁ => wpAny_pure ?_))
  obtain ⟨_, L, h2, _⟩ := I.frs e (by rw [hfr]; exact List.mem_cons_self)
  rw [h2]
  refine wpAny_pure (h L h₁ (by rw [← hfe]; exact h2) (by rw [hfr]; exact hs₁) (I.slots (tk := s.toks) hs₁ fun b hb => ?_))
  obtain ⟨e', he', hb'⟩ := List.mem_filterMap.mp hb
  obtain ⟨_, L', q1, q2⟩ := I.frs e' (by rw [hfr]; exact he')
  rw [hb'] at q1; cases q1; exact q2

/-- a thing that nothing tracks is changed -/
theorem Inv.other (I : Inv C X W S s) {a : Addr} {h' : Heap} {tk : Nat} (hg : W.g a = none) (hr : W.role a = none) (k : ∀ b o, b ≠ a → s.heap.get? b = some o → h'.get? b = some o) : Inv C X W S { s with heap := h', toks := tk } :=
  I.heap fun b o t e => k b o (fun q => by subst q; rcases t with ⟨_, z⟩ | ⟨_, z⟩ <;> simp_all) e

theorem wp_entry {n : Nat} {sc : List (Str × NameKind)} {E : Value → Shared → Prop} {Q : Unit → Shared → Prop} (F : FxOk C n X sc) (I : Inv C X W S s) {c : Str} {e a L : Addr} {oe : Obj} {vs : Array Value} {head : Value} {hn : Bool} (hL : X.env.frame = some L)
    (hc : C.clsA c = some a) (hg : W.g e = none) (hr : W.role e = none) (he : s.heap.get? e = some oe) (hcls : oe.cls = .ref a) (hd : oe.data = .fields vs) (hsz : 1 < vs.size)
    (h : ∀ s', Inv C X W S s' → IsTraced C W s'.heap c (.ref e) → Q () s') :
    wpAny C.M X.A (do let a ← frameOf X.env; let pl ← entryPlaceOf L hn; let b ← EntryCells.newEntry head a .none (rawInt L) .none pl; setField (.ref e) 1 b) Q E s := by
  refine wpAny_bind (wp_frameOf F I fun L' h₁ hL' hs₁ I₁ => ?_)
  have he₁ : h₁.get? e = some oe := (hs₁.2.1 e fun hm => by
    obtain ⟨e', he', hb'⟩ := List.mem_filterMap.mp hm
    obtain ⟨_, L'', q1, q2⟩ := I.frs e' he'
    rw [hb'] at q1; cases q1
    rcases q2 with z | ⟨_, z⟩ <;> rw [hr] at z <;> cases z).trans he
  refine wpAny_bind (wpAny_entryPlaceOf fun pl hpl => ?_)
  unfold EntryCells.newEntry newFields
  refine wpAny_bind (wpAny_newObj_type ?_ (hpl.sizeOk5 _ _ _ _ _))
  have I₂ := I₁.heap (tk := s.toks) (h' := h₁.push { cls := .type "traceback", dict := none, data := .fields ([head, .ref L', .none, rawInt L, .none] ++ (if pl.isEmpty then List.replicate 6 Value.none else pl)).toArray }) .push
  have he₂ := Heap.get?_push_of_some (h := h₁) { cls := .type "traceback", dict := none, data := .fields ([head, .ref L', .none, rawInt L, .none] ++ (if pl.isEmpty then List.replicate 6 Value.none else pl)).toArray } he₁
  refine wpAny_setField he₂ hd hsz ?_
  have hTe : h₁.objs.size ≠ e := Nat.ne_of_gt (Heap.lt_size he₁)
  have hfresh := I₁.fresh (a := h₁.objs.size) get?_size
  have hd₃ := Obj.data_mapFields hd (·.setIfInBounds 1 (Value.ref h₁.objs.size))
  have he₃ := Heap.get?_update_self (Obj.mapFields (·.setIfInBounds 1 (Value.ref h₁.objs.size))) he₂ (Obj.isFreed_of_fields hd₃)
  refine h _ (I₂.other (tk := s.toks) hg hr fun b o hb q => by rw [Heap.get?_update_other _ _ (Ne.symm hb)]; exact q) ?_
  refine ⟨e, a, _, _, h₁.objs.size, { cls := .type "traceback", dict := none, data := .fields ([head, .ref L', .none, rawInt L, .none] ++ (if pl.isEmpty then List.replicate 6 Value.none else pl)).toArray },
    ([head, .ref L', .none, rawInt L, .none] ++ (if pl.isEmpty then List.replicate 6 Value.none else pl)).toArray, rawInt L, rfl, hc, hg, hr, he₃, by rw [Obj.cls_mapFields]; exact hcls, hd₃, by simp [hsz], hTe, hfresh.2, hfresh.1, ?_, rfl, ?_⟩
  · show ((h₁.push _).update e _).get? h₁.objs.size = _
    rw [Heap.get?_update_other _ _ (Ne.symm hTe)]; exact Heap.get?_push_size _ rfl
  · rcases hpl with rfl | ⟨_, _, _, _, _, _, _, rfl⟩ <;> simp

theorem wp_noteFrame {n : Nat} {sc : List (Str × NameKind)} {E : Value → Shared → Prop} {Q : Unit → Shared → Prop} (F : FxOk C n X sc) (I : Inv C X W S s) {c : Str} {v : Value} (t : IsTrace C W s.heap c v)
    (h : ∀ s', Inv C X W S s' → IsTraced C W s'.heap c v → Q () s') : wpAny C.M X.A (noteFrame v X.env) Q E s := by
  obtain ⟨e, a, oe, vs, rfl, hc, hg, hr, he, hcls, hd, ht⟩ := t
  obtain ⟨e', r, hfr, hfe⟩ := F.frm
  obtain ⟨_, L, h2, _⟩ := I.frs e' (by rw [hfr]; exact List.mem_cons_self)
  rw [hfe] at h2
  unfold noteFrame
  simp only [h2]
  rcases ht with ht | ⟨T, oT, ts, fl, h1, hTe, hgT, hrT, hT, hdT, h3⟩
  · refine wpAny_bind (wpAny_field he hd ht ?_)
    rw [if_neg (by decide)]
    exact wp_entry F I h2 hc hg hr he hcls hd (Array.getElem?_eq_some_iff.mp ht).1 h
  · refine wpAny_bind (wpAny_field he hd h1 ?_)
    rw [if_pos (show (Value.ref T != Value.none) = true from by simp)]
    refine wpAny_bind (wpAny_field hT hdT h3 ?_)
    by_cases hfl : (fl == rawInt L) = true
    · rw [if_pos hfl]
      exact wpAny_pure (h _ I ⟨e, a, oe, vs, T, oT, ts, fl, rfl, hc, hg, hr, he, hcls, hd, h1, hTe, hgT, hrT, hT, hdT, h3⟩)
    · rw [if_neg hfl]
      refine wpAny_bind (wpAny_setField hT hdT (Array.getElem?_eq_some_iff.mp h3).1 ?_)
      refine wp_entry F (I.other (tk := s.toks) hgT hrT fun b o hb q => by rw [Heap.get?_update_other _ _ (Ne.symm hb)]; exact q) h2 hc hg hr ?_ hcls hd (Array.getElem?_eq_some_iff.mp h1).1 h
      rw [Heap.get?_update_other _ _ hTe]; exact he

theorem wp_setFlight {E : Value → Shared → Prop} {Q : Unit → Shared → Prop} (I : Inv C X W S s) {c : Str} {v : Value} {f : Option Addr} (t : IsTraced C W s.heap c v)
    (h : ∀ s', Inv C X W S s' → IsTraced C W s'.heap c v → Q () s') : wpAny C.M X.A (setFlight v f) Q E s := by
  obtain ⟨e, a, oe, vs, T, oT, ts, fl, rfl, hc, hg, hr, he, hcls, hd, h1, hTe, hgT, hrT, hT, hdT, h3⟩ := t
  unfold setFlight
  refine wpAny_bind (wpAny_field he hd h1 ?_)
  rw [if_pos (show (Value.ref T != Value.none) = true from by simp)]
  have hsz := (Array.getElem?_eq_some_iff.mp h3).1
  refine wpAny_setField hT hdT hsz ?_
  have hd₃ := Obj.data_mapFields hdT (·.setIfInBounds 3 (f.elim .none fun f => rawInt f))
  have hT₃ := Heap.get?_update_self (Obj.mapFields (·.setIfInBounds 3 (f.elim .none fun f => rawInt f))) hT (Obj.isFreed_of_fields hd₃)
  refine h _ (I.other (tk := s.toks) hgT hrT fun b o hb q => by rw [Heap.get?_update_other _ _ (Ne.symm hb)]; exact q) ?_
  refine ⟨e, a, oe, vs, T, _, _, (f.elim .none fun f => rawInt f), rfl, hc, hg, hr, ?_, hcls, hd, h1, hTe, hgT, hrT, hT₃, hd₃, ?_⟩
  · show (s.heap.update T _).get? e = _
    rw [Heap.get?_update_other _ _ hTe]; exact he
  · rw [Array.getElem?_setIfInBounds_self_of_lt hsz]

theorem wp_leaving {n : Nat} {sc : List (Str × NameKind)} {E : Value → Shared → Prop} {Q : Unit → Shared → Prop} (F : FxOk C n X sc) (I : Inv C X W S s) {c : Str} {v : Value} (t : IsTrace C W s.heap c v)
    (h : ∀ s', Inv C X W S s' → IsTraced C W s'.heap c v → Q () s') : wpAny C.M X.A (leaving X.env v) Q E s := by
  unfold leaving
  exact wpAny_bind (wp_noteFrame F I t fun s' I' t' => wp_setFlight I' t' h)
theorem wp_cameBack {E : Value → Shared → Prop} (I : Inv C X W S s) {c : Str} {v : Value} (t : IsTraced C W s.heap c v)
    (h : ∀ s', Inv C X W S s' → IsTraced C W s'.heap c v → E v s') : cameBackBy C.M X.A X.env E v s := by
  unfold cameBackBy
  obtain ⟨e, a, oe, vs, T, oT, ts, fl, rfl, hc, hg, hr, he, hcls, hd, h1, r⟩ := id t
  refine wpAny_bind (wpAny_field he hd h1 ?_)
  rw [if_neg (show ¬ ((Value.ref T == Value.none) = true) from by simp)]
  exact wp_setFlight I t h
end
end Mine
end
section
set_option autoImplicit false
set_option linter.unusedVariables false
namespace Mine
open PySem PyProof.Rows

theorem bindL_notin {kindOf : Str → Option NameKind} {x : Str} : ∀ (b : List (Str × Value)) (m : Str → Option Value), (∀ p ∈ b, p.1 ≠ x) → bindL kindOf b m x = m x
  | [], m, _ => rfl
  | (n, v) :: r, m, h => by
    unfold bindL
    rw [bindL_notin r _ fun p hp => h p (List.mem_cons_of_mem _ hp)]
    split
    · show (if x = n then some v else m x) = m x
      rw [if_neg (fun q => h (n, v) List.mem_cons_self q.symm)]
    · rfl
theorem bindC_notin {kindOf : Str → Option NameKind} {x : Str} : ∀ (b : List (Str × Value)) (m : Str → Option Value), (∀ p ∈ b, p.1 ≠ x) → bindC kindOf b m x = m x
  | [], m, _ => rfl
  | (n, v) :: r, m, h => by
    unfold bindC
    rw [bindC_notin r _ fun p hp => h p (List.mem_cons_of_mem _ hp)]
    split
    · rfl
    · show (if x = n then some v else m x) = m x
      rw [if_neg (fun q => h (n, v) List.mem_cons_self q.symm)]
theorem zip_fst_mem {ps : List Str} {vs : List Value} {p : Str × Value} (h : p ∈ ps.zip vs) : p.1 ∈ ps := (List.of_mem_zip (show (p.1, p.2) ∈ ps.zip vs from h)).1
theorem bind_spec {kindOf : Str → Option NameKind} : ∀ (ps : List Str) (vs : List Value) (m cm : Str → Option Value), ps.Nodup → ∀ (i : Nat) (x : Str) (v : Value), ps[i]? = some x → vs[i]? = some v →
    (kindOf x = some .local → bindL kindOf (ps.zip vs) m x = some v) ∧ (kindOf x ≠ some .local → bindC kindOf (ps.zip vs) cm x = some v)
  | [], _, _, _, _, i, _, _, h, _ => by simp at h
  | _ :: _, [], _, _, _, i, _, _, _, h => by simp at h
  | n :: ps, w :: vs, m, cm, hn, i, x, v, h1, h2 => by
    rw [List.nodup_cons] at hn
    cases i with
    | zero =>
      simp at h1 h2
      subst h1; subst h2
      have hno : ∀ p ∈ ps.zip vs, p.1 ≠ n := fun p hp q => hn.1 (q ▸ zip_fst_mem hp)
      rw [List.zip_cons_cons]
      unfold bindL bindC
      rw [bindL_notin _ _ hno, bindC_notin _ _ hno]
      constructor
      · intro hk; rw [if_pos hk]; show (if n = n then some w else _) = _; rw [if_pos rfl]
      · intro hk; rw [if_neg hk]; show (if n = n then some w else _) = _; rw [if_pos rfl]
    | succ i =>
      simp at h1 h2
      rw [List.zip_cons_cons]
      unfold bindL bindC
      exact bind_spec ps vs _ _ hn.2 i x v h1 h2
theorem args_get : ∀ (ps : List Str) (vs : List AV) (x : Str) (lv : LV), getA x ((ps.zip vs).map fun p => (p.1, LV.val p.2)) = some lv → ∃ (i : Nat) (a : AV), ps[i]? = some x ∧ vs[i]? = some a ∧ lv = .val a
  | [], _, _, _, h => by simp [getA] at h
  | _ :: _, [], _, _, h => by simp [getA] at h
  | n :: ps, w :: vs, x, lv, h => by
    rw [List.zip_cons_cons, List.map_cons] at h
    unfold getA at h
    split at h
    · rename_i q; cases h; exact ⟨0, w, by simp; exact q, by simp, rfl⟩
    · obtain ⟨i, a, h1, h2, h3⟩ := args_get ps vs x lv h
      exact ⟨i + 1, a, by simpa using h1, by simpa using h2, h3⟩
theorem cells_some {x : Str} : ∀ (names : List (Str × NameKind)) (n : Nat) (acc : List (Str × Addr)), names.lookup x = some .cell ∨ (acc.lookup x).isSome = true → ((cellsFrom n names acc).lookup x).isSome = true
  | [], _, _, h => h.elim (fun e => by cases e) id
  | (y, k) :: r, n, acc, h => by
    unfold cellsFrom
    by_cases hk : (k == .cell) = true
    · rw [if_pos hk]
      refine cells_some r (n + 1) ((y, n) :: acc) ?_
      by_cases hy : (x == y) = true
      · exact .inr (by rw [List.lookup_cons, hy]; rfl)
      · refine h.imp (fun e => ?_) fun e => ?_
        · rw [List.lookup_cons] at e; simpa only [hy] using e
        · rw [List.lookup_cons]; simpa only [hy] using e
    · rw [if_neg hk]
      refine cells_some r n acc ?_
      by_cases hy : (x == y) = true
      · refine .inr (h.elim (fun e => ?_) id)
        rw [List.lookup_cons, hy] at e
        exact absurd (by rw [Option.some.inj e]; rfl) hk
      · refine h.imp (fun e => ?_) id
        rw [List.lookup_cons] at e; simpa only [hy] using e

/-- a new frame's world -/
noncomputable def Wd.enter (W : Wd) (L : Addr) (cs : List (Str × Addr)) (kindOf : Str → Option NameKind) (m cm : Str → Option Value) : Wd :=
  { W with role := fun b => if b = L then some .loc else match cs.find? (fun p => p.2 == b && cs.lookup p.1 == some b) with | some p => some (.cell p.1) | none => W.role b, val := fun x => if kindOf x = some .local then m x else cm x }


/-- how a call ends -/
noncomputable def RetP (C : Cx) (frs : List Env) (W : Wd) (r : Ret) : Result → Shared → Prop := fun res s' =>
  match r with
  | .stuck => True
  | .ok a st => ∃ v W', res = .ok (.ret v) ∧ W.le false W' ∧ InvC C frs W' st s' ∧ VRep C W'.g W'.labs a v
  | .exc c st => ∃ e W', res = .error e ∧ W.le false W' ∧ InvC C frs W' st s' ∧ IsTraced C W' s'.heap c e

noncomputable def CallOk (C : Cx) (n : Nat) (call : Str → Str → List AV → St → Ret) : Prop :=
  ∀ (c f : Str) (vs : List AV) (st : St), call c f vs st ≠ .stuck → ∀ (A : Around) (frs : List Env) (W : Wd) (s : Shared) (args : List Value) (fa : Addr),
    InvC C frs W st s → VReps C W.g W.labs vs args → C.fnA c f = some fa → A.handled = none → A.frames = some frs → Room A n →
    codeAny C.M A (.call (.ref fa) ⟨args, []⟩) (RetP C frs W (call c f vs st)) s

/-- the roles of a frame that has ended fall away -/
noncomputable def endR : Option Role → Option Role
  | some .loc => none
  | some (.cell _) => none
  | some (.own _) => none
  | r => r
noncomputable def Wd.leave (W : Wd) : Wd := { W with role := fun b => endR (W.role b) }
theorem endR_some {o : Option Role} {r : Role} (e : endR o = some r) : o = some r ∧ r ≠ .loc ∧ (∀ x, r ≠ .cell x) ∧ ∀ x, r ≠ .own x := by
  cases o with
  | none => cases e
  | some q =>
    cases q
    case loc => exact (nomatch e)
    case cell x => exact (nomatch e)
    case own x => exact (nomatch e)
    case fld n => have e' : some (Role.fld n) = some r := e; cases e'; exact ⟨rfl, fun z => (nomatch z), fun _ z => (nomatch z), fun _ z => (nomatch z)⟩
    case fown n f => have e' : some (Role.fown n f) = some r := e; cases e'; exact ⟨rfl, fun z => (nomatch z), fun _ z => (nomatch z), fun _ z => (nomatch z)⟩
    case cel n => have e' : some (Role.cel n) = some r := e; cases e'; exact ⟨rfl, fun z => (nomatch z), fun _ z => (nomatch z), fun _ z => (nomatch z)⟩
    case kept n => have e' : some (Role.kept n) = some r := e; cases e'; exact ⟨rfl, fun z => (nomatch z), fun _ z => (nomatch z), fun _ z => (nomatch z)⟩
    case held n => have e' : some (Role.held n) = some r := e; cases e'; exact ⟨rfl, fun z => (nomatch z), fun _ z => (nomatch z), fun _ z => (nomatch z)⟩
theorem endR_same {r : Role} (h1 : r ≠ .loc) (h2 : ∀ x, r ≠ .cell x) (h3 : ∀ x, r ≠ .own x) : endR (some r) = some r := by
  cases r <;> first | rfl | exact absurd rfl h1 | exact absurd rfl (h2 _) | exact absurd rfl (h3 _)

section
variable {C : Cx} {X : Fx} {W : Wd} {S : S} {s : Shared}

theorem Inv.leave (I : Inv C X W S s) {W₀ : Wd} {frs : List Env} (l : W₀.le false W) (hfr : ∀ e ∈ frs, e.scope.kind ≠ .module ∧ ∃ L o, e.frame = some L ∧ W₀.role L = some (.kept o)) : InvC C frs W.leave S.st s ∧ W₀.le false W.leave := by
  have hk : ∀ {b : Addr} {r : Role}, W.role b = some r → r ≠ .loc → (∀ x, r ≠ .cell x) → (∀ x, r ≠ .own x) → W.leave.role b = some r := fun {b r} e h1 h2 h3 => by
    show endR (W.role b) = _; rw [e]; exact endR_same h1 h2 h3
  refine ⟨?_, l.g, l.labs, fun b o e => hk (l.kept b o e) (fun z => (nomatch z)) (fun _ z => (nomatch z)) (fun _ z => (nomatch z)), fun b o e => hk (l.held b o e) (fun z => (nomatch z)) (fun _ z => (nomatch z)) (fun _ z => (nomatch z)), fun q => (nomatch q)⟩
  exact {
    stat := I.stat
    sh := I.sh
    keeps := I.keeps
    apart := fun b r e => I.apart b r (endR_some e).1
    kept := fun b o e => I.kept b o (endR_some e).1
    held := fun b o e => I.held b o (endR_some e).1
    frs := fun e he => by
      obtain ⟨h1, L, o, h2, h3⟩ := hfr e he
      exact ⟨h1, L, o, h2, hk (l.kept _ _ h3) (fun z => (nomatch z)) (fun _ z => (nomatch z)) (fun _ z => (nomatch z))⟩
    nof := fun b r e => (endR_some e).2
    lab := I.lab
    objs := fun n o e => by
      obtain ⟨a, h1, h2⟩ := I.objs n o e
      refine ⟨a, h1, h2.grow (W' := W.leave) (fun _ _ q => q) ⟨[], (List.append_nil _).symm⟩ fun a r q hr => hk q ?_ ?_ ?_⟩
      · rintro rfl; rcases hr with z | z | ⟨_, z⟩ <;> cases z
      · rintro x rfl; rcases hr with z | z | ⟨_, z⟩ <;> cases z
      · rintro x rfl; rcases hr with z | z | ⟨_, z⟩ <;> cases z }

/-- what a callee's frame starts from -/
theorem InvC.enter {frs : List Env} {W : Wd} {st : St} {s s₁ : Shared} (I : InvC C frs W st s) {env : Env} {m cm : Str → Option Value} (hcall : InCallC s env.locals m env.cells cm s₁) {A : Around} {loc : Loc} (hk : env.scope.kind ≠ .module) (hfr : env.frame = some env.locals)
    (hvars : ∀ x lv, getA x loc = some lv → ∃ v a, (if env.kindOf x = some .local then m x else cm x) = some v ∧ lv = .val a ∧ VRep C W.g W.labs a v) :
    Inv C ⟨A.deeper env, env, env :: frs, true⟩ (W.enter env.locals env.cells env.kindOf m cm) ⟨loc, st⟩ s₁ ∧ W.le false (W.enter env.locals env.cells env.kindOf m cm) := by
  have hL := hcall.toInCall.fresh
  have hnewL : s.heap.get? env.locals = none := by
    cases e : s.heap.get? env.locals with
    | none => rfl
    | some o => exact absurd (Heap.lt_size e) (Nat.not_lt.mpr hL)
  have hcellnew : ∀ {n c}, (n, c) ∈ env.cells → s.heap.get? c = none ∧ c ≠ env.locals := fun {n c} h => by
    have := hcall.above n c h
    refine ⟨?_, Nat.ne_of_gt this⟩
    cases e : s.heap.get? c with
    | none => rfl
    | some o => exact absurd (Heap.lt_size e) (Nat.not_lt.mpr (Nat.le_of_lt (Nat.lt_of_le_of_lt hL this)))
  have nofr : ∀ {a : Addr}, s.heap.get? a = none → W.role a = none ∧ W.g a = none := fun {a} h => by
    constructor
    · cases e : W.role a with
      | none => rfl
      | some r => obtain ⟨o, h1, _⟩ := (I.apart a r e).2; rw [h] at h1; cases h1
    · cases e : W.g a with
      | none => rfl
      | some o => rw [I.keeps a o e] at h; cases h
  have hold : ∀ {b : Addr} {r : Role}, W.role b = some r → (W.enter env.locals env.cells env.kindOf m cm).role b = some r := fun {b r} e => by
    show (if b = env.locals then _ else match env.cells.find? (fun p => p.2 == b && env.cells.lookup p.1 == some b) with | some p => some (Role.cell p.1) | none => W.role b) = _
    rw [if_neg (fun q => by subst q; rw [(nofr hnewL).1] at e; cases e)]
    cases hf : env.cells.find? (fun p => p.2 == b && env.cells.lookup p.1 == some b) with
    | none => exact e
    | some p =>
      have h1 := List.find?_some hf
      have h2 := List.mem_of_find?_eq_some hf
      simp only [Bool.and_eq_true, beq_iff_eq] at h1
      have h3 : p.2 = b := h1.1
      have := (nofr (hcellnew (n := p.1) (c := p.2) h2).1).1
      rw [h3, e] at this; cases this
  have hloc : (W.enter env.locals env.cells env.kindOf m cm).role env.locals = some .loc := if_pos rfl
  have hcel : ∀ {n c}, env.cells.lookup n = some c → (W.enter env.locals env.cells env.kindOf m cm).role c = some (.cell n) := fun {n c} hl => by
    have h := mem_of_lookup hl
    show (if c = env.locals then _ else match env.cells.find? (fun p => p.2 == c && env.cells.lookup p.1 == some c) with | some p => some (Role.cell p.1) | none => W.role c) = _
    rw [if_neg (hcellnew h).2]
    cases hf : env.cells.find? (fun p => p.2 == c && env.cells.lookup p.1 == some c) with
    | none => exact absurd (List.find?_eq_none.mp hf (n, c) h) (by simp [hl])
    | some p =>
      have h1 := List.find?_some hf
      simp only [Bool.and_eq_true, beq_iff_eq] at h1
      have h2 := List.mem_of_find?_eq_some hf
      have : p.1 = n := name_of_addr hcall.apart (c := c) (by rw [← h1.1]; exact h2) h
      show some (Role.cell p.1) = _
      rw [this]
  have hinv : ∀ {b : Addr} {r : Role}, (W.enter env.locals env.cells env.kindOf m cm).role b = some r → (b = env.locals ∧ r = .loc) ∨ (∃ n, env.cells.lookup n = some b ∧ r = .cell n) ∨ W.role b = some r := fun {b r} e => by
    have e' : (if b = env.locals then some Role.loc else match env.cells.find? (fun p => p.2 == b && env.cells.lookup p.1 == some b) with | some p => some (Role.cell p.1) | none => W.role b) = some r := e
    split at e'
    · rename_i q; cases e'; exact .inl ⟨q, rfl⟩
    · cases hf : env.cells.find? (fun p => p.2 == b && env.cells.lookup p.1 == some b) with
      | none => rw [hf] at e'; exact .inr (.inr e')
      | some p =>
        rw [hf] at e'; cases e'
        have h1 := List.find?_some hf
        simp only [Bool.and_eq_true, beq_iff_eq] at h1
        exact .inr (.inl ⟨p.1, h1.2, rfl⟩)
  have hkeep := hcall.toInCall.keep
  refine ⟨?_, fun _ _ q => q, ⟨[], (List.append_nil _).symm⟩, fun b o e => hold e, fun b o e => hold e, fun q => (nomatch q)⟩
  exact {
    stat := I.stat
    sh := by
      obtain ⟨h, t, e⟩ := I.sh
      obtain ⟨h', t', e'⟩ := hcall.toInCall.same
      exact ⟨h', t', by rw [e', e]⟩
    keeps := fun b o e => hkeep b o (I.keeps b o e)
    apart := fun b r e => by
      rcases hinv e with ⟨rfl, rfl⟩ | ⟨n, h1, rfl⟩ | h1
      · obtain ⟨o, es, ep, q1, q2, _⟩ := hcall.toInCall.ns
        exact ⟨(nofr hnewL).2, o, q1, fun _ vs z => by rw [q2] at z; cases z⟩
      · obtain ⟨o, q1, q2⟩ := hcall.cell n b h1
        exact ⟨(nofr (hcellnew (mem_of_lookup h1)).1).2, o, q1, fun _ vs z => by rw [q2] at z; cases z⟩
      · obtain ⟨h2, o, h3, h4⟩ := I.apart b r h1
        exact ⟨h2, o, hkeep b o h3, h4⟩
    kept := fun b o e => by
      rcases hinv e with ⟨_, q⟩ | ⟨n, _, q⟩ | h1
      · cases q
      · cases q
      · obtain ⟨sl, h2⟩ := I.kept b o h1; exact ⟨sl, hkeep _ _ h2⟩
    held := fun b o e => by
      rcases hinv e with ⟨_, q⟩ | ⟨n, _, q⟩ | h1
      · cases q
      · cases q
      · exact hkeep _ _ (I.held b o h1)
    frs := fun e he => by
      rcases List.mem_cons.mp he with rfl | he
      · exact ⟨hk, _, hfr, .inl hloc⟩
      · obtain ⟨h1, L, o, h2, h3⟩ := I.frs e he
        exact ⟨h1, L, h2, .inr ⟨o, hold h3⟩⟩
    rloc := hloc
    ns := ⟨m, hcall.toInCall.ns, fun x hx => by show m x = (if env.kindOf x = some .local then m x else cm x); rw [if_pos hx]⟩
    cells := fun x c e => ⟨fun _ => hcel e, fun q => (nomatch q), fun q => by
      show s₁.heap.IsCell c (if env.kindOf x = some .local then m x else cm x)
      rw [if_neg (fun z => by have q' : env.kindOf x = some .cell ∨ env.kindOf x = some .free := q; rw [z] at q'; rcases q' with q' | q' <;> cases q')]
      exact hcall.cell x c e⟩
    vars := fun x lv e => by
      obtain ⟨v, a, h1, rfl, h2⟩ := hvars x lv e
      exact ⟨v, h1, h2⟩
    lab := I.lab
    objs := fun n o e => by
      obtain ⟨a, h1, h2⟩ := I.objs n o e
      exact ⟨a, h1, (h2.simAt fun a r o _ _ z => hkeep _ _ z).grow (W' := W.enter env.locals env.cells env.kindOf m cm) (fun _ _ q => q) ⟨[], (List.append_nil _).symm⟩ fun a r q _ => hold q⟩ }
end
end Mine
end
section
set_option autoImplicit false
set_option linter.unusedVariables false
namespace Mine
open PySem PyProof.Rows

noncomputable def RF (C : Cx) : Wd → Heap → Fl → Flow → Prop := fun W _ f fl =>
  match f, fl with
  | .next, .next => True
  | .brk, .brk => True
  | .cont, .cont => True
  | .ret a, .ret v => VRep C W.g W.labs a v
  | _, _ => False

section
variable {C : Cx}

theorem IsTraced.leave {W : Wd} {h : Heap} {c : Str} {v : Value} (x : IsTraced C W h c v) : IsTraced C W.leave h c v := by
  obtain ⟨e, a, oe, vs, T, oT, ts, fl, h1, h2, h3, h4, h5, h6, h7, h8, h9, h10, h11, r⟩ := x
  exact ⟨e, a, oe, vs, T, oT, ts, fl, h1, h2, h3, by show endR (W.role e) = none; rw [h4]; rfl, h5, h6, h7, h8, h9, h10, by show endR (W.role T) = none; rw [h11]; rfl, r⟩

noncomputable def flv : Flow → Value
  | .ret v => v
  | _ => .none
theorem flow_val {W : Wd} {h : Heap} {f : Fl} {fl : Flow} (r : RF C W h f fl) : VRep C W.g W.labs (flowV f) (flv fl) := by
  cases f <;> cases fl <;> first | exact r.elim | exact r | (simp only [flowV, flv, VRep])

noncomputable def BodyOk (C : Cx) (n : Nat) (T : Ctx) : Prop :=
  ∀ c f fn, C.P.find c f = some fn → ∀ (X : Fx) (W : Wd) (S : S) (s : Shared), FxOk C n X fn.names → X.fn = true → Inv C X W S s → Snd C X false (RF C) (execs fn.body X.env) (exs T fn.body fn.names) W S s

theorem callOk_of (K : CxOk C) {n : Nat} {T : Ctx} (hb : BodyOk C n T) : CallOk C (n + 1) (fun c f vs st => match C.P.find c f with | some fn => runFn T fn vs st | none => .stuck) := by
  intro c f vs st hne A frs W s args fa I hargs hfa hh hfr room
  dsimp only at hne ⊢
  cases hf : C.P.find c f with
  | none => rw [hf] at hne; exact absurd rfl hne
  | some fn =>
    rw [hf] at hne
    dsimp only at hne ⊢
    have hst := I.stat s.heap I.keeps
    obtain ⟨a, ha, hfn⟩ := hst.fn c f fn hf
    rw [hfa] at ha; cases ha
    generalize C.fnD fa = fd at hfn
    generalize C.fnO fa = o at hfn
    have hw := K.wr c f fn hf
    unfold runFn at hne ⊢
    by_cases hlen : (fn.params.length == vs.length) = true
    case neg => rw [if_neg hlen] at hne; exact absurd rfl hne
    rw [if_pos hlen] at hne ⊢
    have hlen' : fn.params.length = vs.length := by simpa using hlen
    have hal := hargs.length
    have hkind : ∀ x ∈ fn.params.zip args, fd.scope.names.lookup x.1 = some .local ∨ (fd.scope.names.lookup x.1 = some .cell ∧ ((cellsFrom (s.heap.objs.size + 1) fd.scope.names []).lookup x.1).isSome = true) := fun x hx => by
      rw [hfn.names]
      exact (hw.par x.1 (zip_fst_mem hx)).imp id fun q => ⟨q, cells_some _ _ _ (.inl q)⟩
    refine codeAny_call_cells (by have := room.1; show A.depth < 1000; omega) hfn.obj hfn.dat hst.nolimit hfn.code hfn.body (hfn.bind args (by rw [hal, hlen'])) hfn.clo hkind (fun s₁ hin => ?_) hfn.co hfn.gen hfn.kind
    let env := callEnvC fd s.heap.objs.size fa
    have henvk : ∀ x, env.kindOf x = fn.names.lookup x := fun x => by show fd.scope.names.lookup x = _; rw [hfn.names]
    obtain ⟨I₁, l₁⟩ := I.enter (A := A) (loc := (fn.params.zip vs).map fun p => (p.1, LV.val p.2)) (env := env) hin (by show fd.scope.kind ≠ _; rw [hfn.kind]; exact fun z => nomatch z) rfl (fun x lv hx => by
      obtain ⟨i, av, h1, h2, rfl⟩ := args_get _ _ _ _ hx
      obtain ⟨v, h3, h4⟩ := hargs.get h2
      have hb := bind_spec (kindOf := env.kindOf) fn.params args (fun _ => none) (fun _ => none) hw.nodup i x v h1 h3
      refine ⟨v, av, ?_, rfl, h4⟩
      split
      · rename_i q; exact hb.1 q
      · rename_i q; exact hb.2 q)
    have F : FxOk C n ⟨A.deeper env, env, env :: frs, true⟩ fn.names := {
      hd := hh
      frames := Around.frames_deeper hfr
      kind := hfn.kind
      loc := fun x hx => by rw [henvk]; exact hx
      cel := fun x hx => by
        rcases hx with hx | hx
        · refine ⟨.inl (by rw [henvk]; exact hx), ?_⟩
          have := cells_some fd.scope.names (s.heap.objs.size + 1) [] (.inl (by rw [hfn.names]; exact hx))
          exact Option.isSome_iff_exists.mp this
        · exact absurd hx (hw.nofree x)
      glob := fun x hx => by rw [henvk]; exact hx
      fcell := fun _ x hx => by rw [henvk]; exact hx
      room := ⟨by have := room.1; show A.depth + 1 + n ≤ 900; omega, by have := room.2; show A.units + 3 + 4 * n ≤ 7900; omega⟩
      globals := hfn.glob
      builtins := hfn.blt
      frm := ⟨env, frs, rfl, rfl⟩ }
    have hbody := hb c f fn hf _ _ _ _ F rfl I₁
    unfold Snd at hbody
    cases he : exs T fn.body fn.names ⟨(fn.params.zip vs).map fun p => (p.1, LV.val p.2), st⟩ with
    | stuck => rw [he] at hne; exact absurd rfl hne
    | ok fl S' =>
      rw [he] at hbody
      refine wpAny_mono hbody (fun f' s' ⟨W', l', I', r'⟩ => ?_) fun _ _ x => x.elim
      obtain ⟨IC, lC⟩ := I'.leave (l₁.trans l') I.frs
      exact ⟨_, _, rfl, lC, IC, by have hv := flow_val r'; cases f' <;> exact hv⟩
    | exc ec S' =>
      rw [he] at hbody
      refine wpAny_mono hbody (fun _ _ x => x.elim) fun e s' ⟨W', l', I', t'⟩ => ?_
      refine wp_leaving F I' t' fun s'' I'' t'' => ?_
      obtain ⟨IC, lC⟩ := I''.leave (l₁.trans l') I.frs
      exact ⟨_, _, rfl, lC, IC, t''.leave⟩
end
end Mine
end
section
set_option autoImplicit false
set_option linter.unusedVariables false
namespace Mine
open PySem PyProof.Rows

section
variable {C : Cx} {X : Fx} {W : Wd} {S : S} {s : Shared}

noncomputable abbrev RA (C : Cx) : Wd → Heap → List AV → Args → Prop := fun W _ l a => a.kw = [] ∧ VReps C W.g W.labs l a.pos
theorem evalArgs_nil {M : Model} {A : Around} {E : Value → Shared → Prop} {s : Shared} {f : Value} {Q : Args → Shared → Prop} (h : Q ⟨[], []⟩ s) : wpAny M A (evalArgs f true [] []) Q E s := by
  unfold evalArgs
  refine wpAny_bind (wpAny_bind (wpAny_pure (wpAny_pure ?_)))
  refine wpAny_bind (wpAny_pure ?_)
  refine wpAny_holding ?_
  simp only [List.all_nil, if_true]
  exact wpAny_bind (wpAny_pure (wpAny_bind (wpAny_pure (wpAny_pure h))))

theorem snd_evalArgs {f : Value} {pos : Pos} {es : List Expr} {ds : List (D AV)} (h : TrE C X (RV C) es ds) (I : Inv C X W S s) : Snd C X true (RA C) (evalArgs f true (backTo pos (starEach es X.env)) []) (seqD ds) W S s := by
  cases es with
  | nil =>
    cases ds with
    | nil => exact evalArgs_nil ⟨W, .refl, I, rfl, VReps.nil⟩
    | cons _ _ => exact h.elim
  | cons e es =>
    cases ds with
    | nil => exact h.elim
    | cons d ds =>
      by_cases hs : PySem.W.isStarred e = true
      · rw [h.1.2 hs]; exact Snd.stk
      · have hsp := snd_spliced (pos := pos) (e :: es) (d :: ds) W S s h I
        rw [show starEach (e :: es) X.env = (false, eval e X.env) :: starEach es X.env from by cases e <;> first | rfl | exact absurd rfl hs] at hsp ⊢
        unfold Snd at hsp ⊢
        cases hd : seqD (d :: ds) S with
        | stuck => trivial
        | exc c S' => rw [hd] at hsp; exact Calls.evalArgs_plain (wpAny_mono hsp (fun _ _ x => x.elim) fun _ _ x => x)
        | ok b S' => rw [hd] at hsp; exact Calls.evalArgs_plain (wpAny_mono hsp (fun vs s' ⟨W', l, I', r⟩ => ⟨W', l, I', rfl, r⟩) fun _ _ x => x)

theorem susp_role {b : Addr} {r : Role} (I : Inv C X W S s) (h : W.role b = some r) : ∃ r', (W.susp s.heap).role b = some r' ∧ ((∃ o, r' = .kept o) ∨ (∃ o, r' = .held o) ∨ (r' = r ∧ r ≠ .loc ∧ (∀ x, r ≠ .cell x) ∧ ∀ x, r ≠ .own x)) := by
  obtain ⟨_, o, ho, _⟩ := I.apart b r h
  have e : (W.susp s.heap).role b = suspR s.heap b (some r) := by show suspR _ _ (W.role b) = _; rw [h]
  cases r
  case loc => exact ⟨.kept o, by rw [e]; show (s.heap.get? b).map Role.kept = _; rw [ho]; rfl, .inl ⟨o, rfl⟩⟩
  case cell x => exact ⟨.held o, by rw [e]; show (s.heap.get? b).map Role.held = _; rw [ho]; rfl, .inr (.inl ⟨o, rfl⟩)⟩
  case own x => exact ⟨.held o, by rw [e]; show (s.heap.get? b).map Role.held = _; rw [ho]; rfl, .inr (.inl ⟨o, rfl⟩)⟩
  all_goals exact ⟨_, e, .inr (.inr ⟨rfl, fun z => (nomatch z), fun _ z => (nomatch z), fun _ z => (nomatch z)⟩)⟩

theorem res_none (I : Inv C X W S s) {W' : Wd} {ev : Bool} (l : (W.susp s.heap).le ev W') {a : Addr} (h : W'.role a = none) : (W.res W').role a = none := by
  show resR (W.role a) (W'.role a) = none
  cases hr : W.role a with
  | none => exact h
  | some r =>
    obtain ⟨r', h1, h2⟩ := susp_role I hr
    rcases h2 with ⟨o, rfl⟩ | ⟨o, rfl⟩ | ⟨rfl, q1, q2, q3⟩
    · rw [l.kept _ _ h1] at h; cases h
    · rw [l.held _ _ h1] at h; cases h
    · cases r' <;> first | exact h | exact absurd rfl q1 | exact absurd rfl (q2 _) | exact absurd rfl (q3 _)
theorem IsTraced.res (I : Inv C X W S s) {W' : Wd} {ev : Bool} (l : (W.susp s.heap).le ev W') {h : Heap} {c : Str} {v : Value} (x : IsTraced C W' h c v) : IsTraced C (W.res W') h c v := by
  obtain ⟨e, a, oe, vs, T, oT, ts, fl, h1, h2, h3, h4, h5, h6, h7, h8, h9, h10, h11, r⟩ := x
  exact ⟨e, a, oe, vs, T, oT, ts, fl, h1, h2, h3, res_none I l h4, h5, h6, h7, h8, h9, h10, res_none I l h11, r⟩

/-- a call of a def -/
theorem snd_callF {n : Nat} {sc : List (Str × NameKind)} {T : Ctx} (hc : CallOk C n T.call) (F : FxOk C n X sc) (I : Inv C X W S s) {c f : Str} {fa : Addr} (hfa : C.fnA c f = some fa) {vs : List AV} {args : List Value} (hv : VReps C W.g W.labs vs args) :
    Snd C X true (RV C) (call (.ref fa) args) (dCallF T c f vs) W S s := by
  unfold Snd dCallF dRet
  cases hr : T.call c f vs S.st with
  | stuck => trivial
  | ok a st =>
    have h := hc c f vs S.st (by rw [hr]; exact fun z => nomatch z) X.A X.frs (W.susp s.heap) s args fa I.susp hv hfa F.hd F.frames F.room
    rw [hr] at h
    refine wpAny_call (codeAny_mono h fun res s' hp => ?_)
    obtain ⟨v, W', rfl, l, IC, hrep⟩ := hp
    obtain ⟨I', l'⟩ := I.res l IC
    exact ⟨_, l', I', hrep⟩
  | exc ec st =>
    have h := hc c f vs S.st (by rw [hr]; exact fun z => nomatch z) X.A X.frs (W.susp s.heap) s args fa I.susp hv hfa F.hd F.frames F.room
    rw [hr] at h
    refine wpAny_call (codeAny_mono h fun res s' hp => ?_)
    obtain ⟨e, W', rfl, l, IC, ht⟩ := hp
    obtain ⟨I', l'⟩ := I.res l IC
    exact ⟨_, l', I', (ht.res I l).weak⟩

theorem Snd.wp {ev : Bool} {α β : Type} {R : Wd → Heap → β → α → Prop} {m m' : Sem α} {d : D β} (h : Snd C X ev R m d W S s) (k : ∀ Q E, wpAny C.M X.A m Q E s → wpAny C.M X.A m' Q E s) : Snd C X ev R m' d W S s := by
  unfold Snd at *
  cases hd : d S with
  | stuck => trivial
  | exc c S' => rw [hd] at h; exact k _ _ h
  | ok b S' => rw [hd] at h; exact k _ _ h

/-- a function's call with its arguments -/
theorem snd_callWith {n : Nat} {sc : List (Str × NameKind)} {T : Ctx} (hc : CallOk C n T.call) (F : FxOk C n X sc) (I : Inv C X W S s) {c f : Str} {fa : Addr} {fn : Fn} (hfind : C.P.find c f = some fn) (hfa : C.fnA c f = some fa)
    {pos : Pos} {es : List Expr} {ds : List (D AV)} {fs : List AV} {first : List Value} (h : TrE C X (RV C) es ds) (hf : VReps C W.g W.labs fs first) :
    Snd C X true (RV C) (callWith pos (.ref fa) first (backTo pos (starEach es X.env)) []) (bnd (seqD ds) fun vs => dCallF T c f (fs ++ vs)) W S s := by
  have h1 := snd_evalArgs (f := .ref fa) (pos := pos) h I
  unfold Snd at h1
  unfold Snd bnd
  cases hd : seqD ds S with
  | stuck => trivial
  | exc ec S' =>
    rw [hd] at h1
    exact Calls.callWith_function (o := default) (fd := default) (wpAny_mono h1 (fun _ _ x => x.elim) fun _ _ x => x)
  | ok vs S' =>
    rw [hd] at h1
    dsimp only at h1 ⊢
    have key : ∀ (Q E : Value → Shared → Prop), (∀ a s' W', W.le true W' → Inv C X W' S' s' → VReps C W'.g W'.labs vs a → wpAny C.M X.A (call (.ref fa) (first ++ a)) Q E s') →
        wpAny C.M X.A (callWith pos (.ref fa) first (backTo pos (starEach es X.env)) []) Q E s := fun Q E hq => by
      obtain ⟨a, ha, hfn⟩ := (I.stat s.heap I.keeps).fn c f fn hfind
      rw [hfa] at ha; cases ha
      refine Calls.callWith_function (o := C.fnO fa) (fd := C.fnD fa) (wpAny_mono h1 (fun ⟨ap, ak⟩ s' ⟨W', l, I', hk, r⟩ => ?_) fun _ _ x => x.elim)
      obtain rfl : ak = [] := hk
      refine ⟨⟨?_, hfn.dat⟩, hq ap s' W' l I' r⟩
      obtain ⟨a, ha, hfn'⟩ := (I'.stat s'.heap I'.keeps).fn c f fn hfind
      rw [hfa] at ha; cases ha
      exact hfn'.obj
    have hcall : ∀ a s' W', W.le true W' → Inv C X W' S' s' → VReps C W'.g W'.labs vs a → Snd C X true (RV C) (call (.ref fa) (first ++ a)) (dCallF T c f (fs ++ vs)) W' S' s' := fun a s' W' l I' r => snd_callF hc F I' hfa ((hf.le l).append r)
    cases hr : dCallF T c f (fs ++ vs) S' with
    | stuck => trivial
    | ok b S'' =>
      refine key _ _ fun a s' W' l I' r => ?_
      have := hcall a s' W' l I' r
      unfold Snd at this; rw [hr] at this
      exact wpAny_mono this (fun v s'' ⟨W'', l', I'', r''⟩ => ⟨W'', l.trans l', I'', r''⟩) fun _ _ x => x
    | exc ec S'' =>
      refine key _ _ fun a s' W' l I' r => ?_
      have := hcall a s' W' l I' r
      unfold Snd at this; rw [hr] at this
      exact wpAny_mono this (fun _ _ x => x) fun e s'' ⟨W'', l', I'', t''⟩ => ⟨W'', l.trans l', I'', t''⟩
end
end Mine
end
section
set_option autoImplicit false
set_option linter.unusedVariables false
namespace Mine
open PySem PyProof.Rows

noncomputable def Wd.hold (W : Wd) (h : Heap) (bs : List Addr) : Wd := { W with role := fun b => if b ∈ bs then (h.get? b).map .held else W.role b }
noncomputable def Wd.drop (W : Wd) (bs : List Addr) : Wd := { W with role := fun b => if b ∈ bs then none else W.role b }

section
variable {C : Cx} {X : Fx} {W : Wd} {S : S} {s : Shared}

theorem hold_old {h : Heap} {bs : List Addr} (hb : ∀ b ∈ bs, W.role b = none) {b : Addr} {r : Role} (e : W.role b = some r) : (W.hold h bs).role b = some r := by
  show (if b ∈ bs then _ else W.role b) = _
  rw [if_neg (fun q => by rw [hb b q] at e; cases e)]; exact e
theorem hold_some {h : Heap} {bs : List Addr} {b : Addr} {r : Role} (e : (W.hold h bs).role b = some r) : (b ∈ bs ∧ ∃ o, h.get? b = some o ∧ r = .held o) ∨ W.role b = some r := by
  have e' : (if b ∈ bs then (h.get? b).map Role.held else W.role b) = some r := e
  split at e'
  · rename_i q
    cases hb : h.get? b with
    | none => rw [hb] at e'; cases e'
    | some o => rw [hb] at e'; cases e'; exact .inl ⟨q, o, rfl, rfl⟩
  · exact .inr e'
theorem Wd.le.hold {ev : Bool} {h : Heap} {bs : List Addr} (hb : ∀ b ∈ bs, W.role b = none) : W.le ev (W.hold h bs) := ⟨fun _ _ q => q, ⟨[], (List.append_nil _).symm⟩, fun b o e => hold_old hb e, fun b o e => hold_old hb e, fun _ => rfl⟩

theorem Inv.hold (I : Inv C X W S s) {bs : List Addr} (hg : ∀ b ∈ bs, W.g b = none) (hb : ∀ b ∈ bs, W.role b = none) : Inv C X (W.hold s.heap bs) S s where
  stat := I.stat
  sh := I.sh
  keeps := I.keeps
  apart := fun b r e => by
    rcases hold_some e with ⟨q, o, h1, rfl⟩ | h1
    · exact ⟨hg b q, o, h1, fun z => absurd rfl (z o)⟩
    · exact I.apart b r h1
  kept := fun b o e => by
    rcases hold_some e with ⟨q, o', h1, z⟩ | h1
    · cases z
    · exact I.kept b o h1
  held := fun b o e => by
    rcases hold_some e with ⟨q, o', h1, z⟩ | h1
    · cases z; exact h1
    · exact I.held b o h1
  frs := fun e he => by
    obtain ⟨h1, L, h2, h3⟩ := I.frs e he
    exact ⟨h1, L, h2, h3.imp (fun q => hold_old hb q) fun ⟨o, q⟩ => ⟨o, hold_old hb q⟩⟩
  rloc := hold_old hb I.rloc
  ns := I.ns
  cells := fun x c e => by
    obtain ⟨h1, h2, h3⟩ := I.cells x c e
    exact ⟨fun q => hold_old hb (h1 q), fun q => let ⟨o, z⟩ := h2 q; ⟨o, hold_old hb z⟩, h3⟩
  vars := fun x lv e => by
    obtain ⟨v, h1, h2⟩ := I.vars x lv e
    exact ⟨v, h1, h2.grow (W' := W.hold s.heap bs) (fun _ _ q => q) ⟨[], (List.append_nil _).symm⟩ fun a q => hold_old hb q⟩
  lab := I.lab
  objs := fun n o e => by
    obtain ⟨a, h1, h2⟩ := I.objs n o e
    exact ⟨a, h1, h2.grow (W' := W.hold s.heap bs) (fun _ _ q => q) ⟨[], (List.append_nil _).symm⟩ fun a r q _ => hold_old hb q⟩

theorem drop_old {bs : List Addr} {b : Addr} {r : Role} (e : W.role b = some r) (hb : b ∉ bs) : (W.drop bs).role b = some r := by
  show (if b ∈ bs then _ else W.role b) = _
  rw [if_neg hb]; exact e
theorem drop_some {bs : List Addr} {b : Addr} {r : Role} (e : (W.drop bs).role b = some r) : b ∉ bs ∧ W.role b = some r := by
  have e' : (if b ∈ bs then none else W.role b) = some r := e
  split at e'
  · cases e'
  · rename_i q; exact ⟨q, e'⟩

/-- what was held is let go -/
theorem Inv.drop (I : Inv C X W S s) {bs : List Addr} (hh : ∀ b ∈ bs, ∀ r, W.role b = some r → ∃ o, r = .held o) (hc : ∀ x c, X.env.cells.lookup x = some c → c ∉ bs) : Inv C X (W.drop bs) S s := by
  have nb : ∀ {b : Addr} {r : Role}, W.role b = some r → (∀ o, r ≠ .held o) → b ∉ bs := fun {b r} e h q => let ⟨o, z⟩ := hh b q r e; h o z
  exact {
    stat := I.stat
    sh := I.sh
    keeps := I.keeps
    apart := fun b r e => I.apart b r (drop_some e).2
    kept := fun b o e => I.kept b o (drop_some e).2
    held := fun b o e => I.held b o (drop_some e).2
    frs := fun e he => by
      obtain ⟨h1, L, h2, h3⟩ := I.frs e he
      exact ⟨h1, L, h2, h3.imp (fun q => drop_old q (nb q fun _ z => (nomatch z))) fun ⟨o, q⟩ => ⟨o, drop_old q (nb q fun _ z => (nomatch z))⟩⟩
    rloc := drop_old I.rloc (nb I.rloc fun _ z => (nomatch z))
    ns := I.ns
    cells := fun x c e => by
      obtain ⟨h1, h2, h3⟩ := I.cells x c e
      exact ⟨fun q => drop_old (h1 q) (hc x c e), fun q => let ⟨o, z⟩ := h2 q; ⟨o, drop_old z (hc x c e)⟩, h3⟩
    vars := fun x lv e => by
      obtain ⟨v, h1, h2⟩ := I.vars x lv e
      exact ⟨v, h1, h2.grow (W' := W.drop bs) (fun _ _ q => q) ⟨[], (List.append_nil _).symm⟩ fun a q => drop_old q (nb q fun _ z => (nomatch z))⟩
    lab := I.lab
    objs := fun n o e => by
      obtain ⟨a, h1, h2⟩ := I.objs n o e
      refine ⟨a, h1, h2.grow (W' := W.drop bs) (fun _ _ q => q) ⟨[], (List.append_nil _).symm⟩ fun a r q hr => drop_old q (nb q ?_)⟩
      rintro o rfl; rcases hr with z | z | ⟨_, z⟩ <;> cases z }

/-- from a world through one in which bs was held, and let go -/
theorem Wd.le.drop {ev : Bool} {W W₁ : Wd} {h : Heap} {bs : List Addr} (hb : ∀ b ∈ bs, W.role b = none) (l : (W.hold h bs).le ev W₁) : W.le ev (W₁.drop bs) where
  g := l.g
  labs := l.labs
  kept := fun b o e => drop_old (l.kept b o (hold_old hb e)) (fun q => by rw [hb b q] at e; cases e)
  held := fun b o e => drop_old (l.held b o (hold_old hb e)) (fun q => by rw [hb b q] at e; cases e)
  val := fun q => l.val q

noncomputable def SndS (C : Cx) (n : Nat) (sc : List (Str × NameKind)) (st : Stmt) (d : D Fl) : Prop :=
  ∀ (X : Fx) (W : Wd) (S : Mine.S) (s : Shared), FxOk C n X sc → X.fn = true → Inv C X W S s → Snd C X false (RF C) (exec st X.env) d W S s
noncomputable def SndSs (C : Cx) (n : Nat) (sc : List (Str × NameKind)) (st : List Stmt) (d : D Fl) : Prop :=
  ∀ (X : Fx) (W : Wd) (S : Mine.S) (s : Shared), FxOk C n X sc → X.fn = true → Inv C X W S s → Snd C X false (RF C) (execs st X.env) d W S s

theorem Snd.weak {α β : Type} {R : Wd → Heap → β → α → Prop} {m : Sem α} {d : D β} {ev : Bool} (h : Snd C X ev R m d W S s) : Snd C X false R m d W S s := by
  unfold Snd at *
  cases hd : d S with
  | stuck => trivial
  | exc c S' => rw [hd] at h; exact wpAny_mono h (fun _ _ x => x) fun e s' ⟨W', l, r⟩ => ⟨W', l.weak, r⟩
  | ok b S' => rw [hd] at h; exact wpAny_mono h (fun a s' ⟨W', l, r⟩ => ⟨W', l.weak, r⟩) fun _ _ x => x

variable {n : Nat} {sc : List (Str × NameKind)}
theorem sndSs_nil : SndSs C n sc [] (pur .next) := fun X W S s F hf I => by rw [execs_nil]; exact Snd.pure I trivial
theorem sndSs_cons {st : Stmt} {rest : List Stmt} {d dr : D Fl} (h : SndS C n sc st d) (hr : SndSs C n sc rest dr) : SndSs C n sc (st :: rest) (thenF d dr) := fun X W S s F hf I => by
  rw [execs_cons]
  unfold thenF
  refine Snd.bind (h X W S s F hf I) fun f fl W₁ S₁ s₁ l₁ I₁ r₁ _ => ?_
  cases f <;> cases fl <;> first | exact r₁.elim | exact hr X W₁ S₁ s₁ F hf I₁ | exact Snd.pure I₁ r₁
theorem sndS_pass {p : Pos} : SndS C n sc (.Pass p) (pur .next) := fun X W S s F hf I => by rw [exec_Pass]; exact Snd.stand (Snd.pure I trivial) I
theorem sndS_return {e : Option Expr} {p : Pos} {d : D AV} (h : SndO C n sc e d) : SndS C n sc (.Return e p) (bnd d fun a => pur (.ret a)) := fun X W S s F hf I => by
  cases e with
  | none =>
    rw [exec_Return_none]
    refine Snd.stand ?_ I
    have h1 := (h X W S s F I).weak
    refine Snd.bind (m := valueOrNone (evalOpt none X.env)) (k := fun v => (Pure.pure (Flow.ret v) : Sem Flow)) h1 fun a va W₁ S₁ s₁ l₁ I₁ r₁ _ => Snd.pure I₁ r₁
  | some e =>
    rw [exec_Return_some]
    exact Snd.stand (Snd.bind (h X W S s F I).weak fun a va W₁ S₁ s₁ l₁ I₁ r₁ _ => Snd.pure I₁ r₁) I

/-- a test -/
noncomputable def SndT (C : Cx) (n : Nat) (sc : List (Str × NameKind)) (e : Expr) (d : D AV) : Prop :=
  ∀ (X : Fx) (W : Wd) (S : Mine.S) (s : Shared), FxOk C n X sc → Inv C X W S s → Snd C X true RB (isTrue e X.env (eval e X.env)) (trd d) W S s
theorem sndS_if {t : Expr} {a b : List Stmt} {p : Pos} {d : D AV} {da db : D Fl} (ht : SndT C n sc t d) (ha : SndSs C n sc a da) (hb : SndSs C n sc b db) :
    SndS C n sc (.If t a b p) (bnd d fun v => bnd (Mine.opt (truthV v)) fun c => if c then da else db) := fun X W S s F hf I => by
  rw [exec_If, ← bnd_assoc]
  refine Snd.stand ?_ I
  refine Snd.bind (ht X W S s F I).weak fun c c' W₁ S₁ s₁ l₁ I₁ r₁ _ => ?_
  obtain rfl : c = c' := r₁
  cases c with
  | true => exact ha X W₁ S₁ s₁ F hf I₁
  | false => exact hb X W₁ S₁ s₁ F hf I₁

noncomputable abbrev RU : Wd → Heap → Unit → Unit → Prop := fun _ _ _ _ => True
theorem snd_storeVal {x : Str} {a : AV} {v : Value} (F : FxOk C n X sc) (I : Inv C X W S s) (hst : sc.lookup x = some .local ∨ (X.fn = true ∧ sc.lookup x = some .cell)) (h : VRep C W.g W.labs a v) :
    Snd C X false RU (storeName X.env x v) (wrLoc x (.val a)) W S s := by
  show wpAny _ _ _ _ _ _
  exact wp_store (n := none) (lv := .val a) F I hst (fun _ q => (nomatch q)) (fun h' _ => h) fun s' l I' => ⟨_, l, I', trivial⟩
/-- a new container of its own -/
noncomputable abbrev RFr (C : Cx) : Wd → Heap → AV → Value → Prop := fun W h a v => ∃ ad, v = .ref ad ∧ W.g ad = none ∧ W.role ad = none ∧ CRep C W h ad a
theorem CRep.there {h : Heap} {ad : Addr} {a : AV} (x : CRep C W h ad a) : ∃ o, h.get? ad = some o ∧ ∀ vs, o.data ≠ .fields vs := by
  cases a <;> first | exact x.elim | skip
  obtain ⟨vs, ⟨n, h1⟩, _⟩ := x
  exact ⟨_, h1, fun _ z => nomatch z⟩
theorem snd_storeOwn {x : Str} {a : AV} {v : Value} (F : FxOk C n X sc) (I : Inv C X W S s) (hst : sc.lookup x = some .local ∨ (X.fn = true ∧ sc.lookup x = some .cell)) (h : RFr C W s.heap a v) :
    Snd C X false RU (storeName X.env x v) (wrLoc x (.own a)) W S s := by
  obtain ⟨ad, rfl, hg, hr, hc⟩ := h
  show wpAny _ _ _ _ _ _
  refine wp_store (n := some ad) (lv := .own a) F I hst (fun a' q => by cases q; exact ⟨hg, hr, hc.there⟩) (fun h' hk => ?_) fun s' l I' => ⟨_, l, I', trivial⟩
  refine ⟨ad, rfl, if_pos rfl, ?_⟩
  refine (hc.sim fun o e => hk ad o (by rw [hr]; exact fun z => nomatch z) (by rw [hr]; exact fun z => nomatch z) e).grow (fun _ _ q => q) ⟨[], (List.append_nil _).symm⟩
end
end Mine
end
section
set_option autoImplicit false
set_option linter.unusedVariables false
namespace Mine
open PySem PyProof.Rows

section
variable {C : Cx} {X : Fx} {W : Wd} {S : S} {s : Shared} {n : Nat} {sc : List (Str × NameKind)}

/-- an iterator over the items l; it turns what stands at wr -/
noncomputable def IterW (C : Cx) (X : Fx) (W : Wd) (h : Heap) (l : List AV) (it : Value) (wr : List Addr) : Prop :=
  ∃ I fp P St, it = .ref I ∧ Walks C.prog C.w X.A I fp wr l.length P St ∧ St 0 h ∧ (∀ i v, P i v → i < l.length → ∃ a, l[i]? = some a ∧ VRep C W.g W.labs a v) ∧
    (∀ b ∈ wr, W.g b = none ∧ W.role b = none) ∧ (∀ b ∈ fp, b ∉ wr → ∃ o, W.g b = some o) ∧ (∀ i h, St i h → ∀ b ∈ wr, ∃ o, h.get? b = some o) ∧ ∀ ts k p v, letOwnedTupleGo (.Tuple ts k p) it v = Pure.pure () ∨ ∀ s' Q E, (∃ j, St j s'.heap) → Q () s' → wpAny C.M X.A (letOwnedTupleGo (.Tuple ts k p) it v) Q E s'
noncomputable def IterAt (C : Cx) (X : Fx) (W : Wd) (h : Heap) (l : List AV) (it : Value) : Prop := ∃ wr, IterW C X W h l it wr
theorem isSt_spec {x : Str} (h : isSt sc x = true) : (sc.lookup x = some .local ∨ sc.lookup x = some .cell) ∧ okNm x = true := by
  unfold isSt at h
  revert h
  cases sc.lookup x with
  | none => intro h; cases h
  | some k => cases k <;> intro h <;> first | exact ⟨.inl rfl, h⟩ | exact ⟨.inr rfl, h⟩ | cases h

theorem snd_bindName {x : Str} {a : AV} {v : Value} {p : Pos} (F : FxOk C n X sc) (I : Inv C X W S s) (hst : sc.lookup x = some .local ∨ (X.fn = true ∧ sc.lookup x = some .cell)) (h : VRep C W.g W.labs a v) :
    Snd C X false RU (bindName X.env x v) (wrLoc x (.val a)) W S s :=
  (snd_storeVal F I hst h).wp fun Q E q => wpAny_bindName q

/-- storable, as a target -/
noncomputable def StOk (X : Fx) (sc : List (Str × NameKind)) (x : Str) : Prop := sc.lookup x = some .local ∨ (X.fn = true ∧ sc.lookup x = some .cell)

noncomputable def wrAll : Loc → D Unit
  | [] => pur ()
  | p :: r => bnd (wrLoc p.1 p.2) fun _ => wrAll r
theorem wrAll_eq : ∀ (b : Loc) (S : Mine.S), wrAll b S = .ok () { S with loc := b.foldl (fun l p => setA p.1 p.2 l) S.loc }
  | [], S => rfl
  | p :: r, S => by show wrAll r _ = _; rw [wrAll_eq r]; rfl
theorem assignT_eq {t : Expr} {v : AV} {S : Mine.S} : assignT t v S = (match bindT t v with | some b => wrAll b S | none => .stuck) := by
  unfold assignT
  cases bindT t v with
  | none => rfl
  | some b => dsimp only; rw [wrAll_eq]

theorem snd_inOrder : ∀ (ts : List Expr) (avs : List AV) (b : Loc) (vs : List Value) (W : Wd) (S : Mine.S) (s : Shared) (F : FxOk C n X sc),
    (ts.zip avs).foldr (fun p r => match p.1, r with | .Name x _, some r => some ((x, LV.val p.2) :: r) | _, _ => none) (some []) = some b → ts.length = avs.length →
    (∀ t ∈ ts, ∀ x p, t = .Name x p → StOk X sc x) → Inv C X W S s → VReps C W.g W.labs avs vs → Snd C X false RU (assignInOrder ((assignEach ts X.env).map (·.2)) vs) (wrAll b) W S s
  | [], avs, b, vs, W, S, s, F, hb, hl, ht, I, hv => by
    cases avs with
    | nil =>
      simp at hb; subst hb
      simp only [VReps] at hv; subst hv
      exact Snd.pure I trivial
    | cons _ _ => simp at hl
  | t :: ts, avs, b, vs, W, S, s, F, hb, hl, ht, I, hv => by
    cases avs with
    | nil => simp at hl
    | cons a avs =>
      simp only [List.zip_cons_cons, List.foldr_cons] at hb
      cases hr : (ts.zip avs).foldr (fun p r => match p.1, r with | .Name x _, some r => some ((x, LV.val p.2) :: r) | _, _ => none) (some []) with
      | none => rw [hr] at hb; cases t <;> cases hb
      | some b' =>
        rw [hr] at hb
        cases t <;> first | (cases hb; done) | skip
        rename_i x p
        cases hb
        simp only [VReps] at hv
        obtain ⟨v, vs', rfl, hv1, hv2⟩ := hv
        rw [show assignEach (.Name x p :: ts) X.env = (false, fun v => assign (.Name x p) X.env v) :: assignEach ts X.env from rfl]
        show Snd C X false RU (do holding vs' (assign (.Name x p) X.env v); assignInOrder ((assignEach ts X.env).map (·.2)) vs') (bnd (wrLoc x (.val a)) fun _ => wrAll b') W S s
        have h1 : Snd C X false RU (assign (.Name x p) X.env v) (wrLoc x (.val a)) W S s := by
          rw [PySem.assign_Name]
          exact Snd.stand (snd_bindName (p := p) F I (ht _ List.mem_cons_self x p rfl) hv1) I
        refine Snd.bind h1.holding fun _ _ W₁ S₁ s₁ l₁ I₁ _ _ => ?_
        exact snd_inOrder ts avs b' vs' W₁ S₁ s₁ F hr (by simpa using hl) (fun t' ht' => ht t' (List.mem_cons_of_mem _ ht')) I₁ (hv2.le l₁)

theorem assignEach_spec : ∀ (ts : List Expr), (∀ t ∈ ts, ∃ x p, t = .Name x p) → (assignEach ts X.env).length = ts.length ∧ (assignEach ts X.env).findIdx? (·.1) = none
  | [], _ => ⟨rfl, rfl⟩
  | t :: ts, h => by
    obtain ⟨x, p, rfl⟩ := h t List.mem_cons_self
    obtain ⟨h1, h2⟩ := assignEach_spec ts fun t' ht' => h t' (List.mem_cons_of_mem _ ht')
    rw [show assignEach (.Name x p :: ts) X.env = (false, fun v => assign (.Name x p) X.env v) :: assignEach ts X.env from rfl]
    exact ⟨by simp [h1], by simp [List.findIdx?_cons, h2]⟩

theorem foldr_names : ∀ (ts : List Expr) (avs : List AV) (b : Loc), (ts.zip avs).foldr (fun p r => match p.1, r with | .Name x _, some r => some ((x, LV.val p.2) :: r) | _, _ => none) (some []) = some b → ts.length = avs.length → ∀ t ∈ ts, ∃ x p, t = .Name x p
  | [], _, _, _, _, t, h => nomatch h
  | t :: ts, [], _, _, hl, _, _ => by simp at hl
  | t :: ts, a :: avs, b, hb, hl, t', ht' => by
    simp only [List.zip_cons_cons, List.foldr_cons] at hb
    cases hr : (ts.zip avs).foldr (fun p r => match p.1, r with | .Name x _, some r => some ((x, LV.val p.2) :: r) | _, _ => none) (some []) with
    | none => rw [hr] at hb; cases t <;> cases hb
    | some b' =>
      rw [hr] at hb
      cases t <;> first | (cases hb; done) | skip
      rename_i x p
      rcases List.mem_cons.mp ht' with rfl | h
      · exact ⟨x, p, rfl⟩
      · exact foldr_names ts avs b' hr (by simpa using hl) t' h

theorem snd_assignT {t : Expr} {a : AV} {v : Value} (F : FxOk C n X sc) (I : Inv C X W S s) (hst : ∀ x p, (t = .Name x p ∨ ∃ ts k q, t = .Tuple ts k q ∧ Expr.Name x p ∈ ts) → StOk X sc x) (h : VRep C W.g W.labs a v) :
    Snd C X false RU (assign t X.env v) (assignT t a) W S s := by
  refine Snd.of_eq (d := fun S => match bindT t a with | some b => wrAll b S | none => .stuck) ?_ assignT_eq
  cases hb : bindT t a with
  | none => exact Snd.of_eq (d := stk) .stk rfl
  | some b =>
    refine Snd.of_eq (d := wrAll b) ?_ rfl
    unfold bindT at hb
    cases t <;> first | (cases hb; done) | skip
    · rename_i x p
      cases hb
      show Snd C X false RU _ (bnd (wrLoc x (.val a)) fun _ => pur ()) W S s
      rw [PySem.assign_Name]
      refine Snd.stand ?_ I
      have h1 := snd_bindName (p := p) F I (hst x p (.inl rfl)) h
      exact Snd.of_eq h1 rfl
    · rename_i ts k p
      dsimp only at hb
      cases a <;> first | (cases hb; done) | skip
      rename_i avs
      dsimp only at hb
      split at hb
      · rename_i hlen
        have hlen' : ts.length = avs.length := by simpa using hlen
        have hn := foldr_names ts avs b hb hlen'
        obtain ⟨e1, e2⟩ := assignEach_spec (X := X) ts hn
        simp only [VRep] at h
        obtain ⟨ad, vs, rfl, hg, hsz, hv⟩ := h
        have hvl := hv.length
        rw [Array.length_toList] at hvl
        have hit := hg.heap I.keeps
        have main : ∀ h', Heap.ExtBut s.heap.objs.size s.heap h' → Snd C X false RU (assignInOrder ((assignEach ts X.env).map (·.2)) vs.toList) (wrAll b) W S { s with heap := h' } := fun h' he =>
          snd_inOrder ts avs b vs.toList W S _ F hb hlen' (fun t ht x p q => hst x p (.inr ⟨ts, k, _, rfl, q ▸ ht⟩)) (I.heap (tk := s.toks) (.of_ext fun b' o e => he b' o (Nat.ne_of_lt (Heap.lt_size e)) e)) hv
        have fin : ∀ (Q : Unit → Shared → Prop) (E : Value → Shared → Prop), (∀ h', Heap.ExtBut s.heap.objs.size s.heap h' → wpAny C.M X.A (assignInOrder ((assignEach ts X.env).map (·.2)) vs.toList) Q E { s with heap := h' }) → wpAny C.M X.A (assign (.Tuple ts k p) X.env (.ref ad)) Q E s :=
          fun Q E hq => wpAny_assign_Tuple F.hd hit (by rw [e1, hlen', hvl]) e2 hq
        unfold Snd
        rw [wrAll_eq]
        refine fin _ _ fun h' he => ?_
        have := main h' he
        unfold Snd at this
        rw [wrAll_eq] at this
        exact this
      · cases hb

theorem drop_none {bs : List Addr} {a : Addr} (h : W.role a = none) : (W.drop bs).role a = none := by
  show (if a ∈ bs then none else W.role a) = none
  split
  · rfl
  · exact h
theorem IsTrace.drop {bs : List Addr} {h : Heap} {c : Str} {v : Value} (x : IsTrace C W h c v) : IsTrace C (W.drop bs) h c v := by
  obtain ⟨e, a, oe, vs, h1, h2, h3, h4, h5, h6, h7, h8⟩ := x
  exact ⟨e, a, oe, vs, h1, h2, h3, drop_none h4, h5, h6, h7, h8.imp id fun ⟨T, oT, ts, fl, q1, q2, q3, q4, r⟩ => ⟨T, oT, ts, fl, q1, q2, q3, drop_none q4, r⟩⟩
/-- how a statement ends, from an outcome -/
noncomputable def FlP (C : Cx) (X : Fx) (W : Wd) (o : Out Fl) : Flow → Shared → Prop := fun f s' => match o with | .ok fl S' => ∃ W', W.le false W' ∧ Inv C X W' S' s' ∧ RF C W' s'.heap fl f | _ => False
noncomputable def ExP (C : Cx) (X : Fx) (W : Wd) {β : Type} (o : Out β) : Value → Shared → Prop := fun e s' => match o with | .exc c S' => ∃ W', W.le false W' ∧ Inv C X W' S' s' ∧ IsTraced C W' s'.heap c e | _ => False

theorem noted_exc {k : Nat} (F : FxOk C k X sc) {β : Type} {o : Out β} {c : Str} {S' : Mine.S} (ho : o = .exc c S') {W₀ W' : Wd} (l : W₀.le false W') {e : Value} {s' : Shared} (I : Inv C X W' S' s') (t : IsTrace C W' s'.heap c e)
    {R : Result → Shared → Prop} (hR : ∀ e s', ExP C X W₀ o e s' → R (.error e) s') : notedBy C.M X.A X.env (fun e s' => R (.error e) s') e s' := by
  unfold notedBy
  refine wp_noteFrame F I t fun s'' I'' t'' => hR e s'' ?_
  subst ho
  exact ⟨W', l, I'', t''⟩

theorem codeAny_for (F : FxOk C n X sc) (hfn : X.fn = true) {t : Expr} {body : List Stmt} {dbody : D Fl} {l : List AV} {it : Value}
    (hst : ∀ x p, (t = .Name x p ∨ ∃ ts k q, t = .Tuple ts k q ∧ Expr.Name x p ∈ ts) → StOk X sc x)
    (hbody : ∀ (W : Wd) (S : Mine.S) (s : Shared), Inv C X W S s → Snd C X false (RF C) (execs body X.env) dbody W S s)
    (ht : (∃ x p, t = .Name x p) ∨ ∃ ts k q, t = .Tuple ts k q)
    (I : Inv C X W S s) (hit : IterAt C X W s.heap l it) (hne : forGo t dbody l S ≠ .stuck)
    {R : Result → Shared → Prop} (hR : ∀ f s', FlP C X W (forGo t dbody l S) f s' → R (.ok f) s') (hRe : ∀ e s', ExP C X W (forGo t dbody l S) e s' → R (.error e) s') :
    codeAny C.M X.A (.forLoop t it body [] X.env) R s := by
  obtain ⟨wr, Ia, fp, P, St, rfl, Wk, hst0, hP, hwr, hfp, hex, hown⟩ := hit
  have hwrg : ∀ b ∈ wr, W.g b = none := fun b hb => (hwr b hb).1
  have hwrr : ∀ b ∈ wr, W.role b = none := fun b hb => (hwr b hb).2
  refine codeAny_forLoop_any (fun m s' => ∃ i W' S', m = l.length + 1 - i ∧ i ≤ l.length ∧ W.le false W' ∧ Inv C X W' S' s' ∧ (∀ b ∈ wr, W'.g b = none ∧ W'.role b = none) ∧ St i s'.heap ∧ forGo t dbody (l.drop i) S' = forGo t dbody l S) ?_ (l.length + 1) ⟨0, W, S, rfl, Nat.zero_le _, .refl, I, hwr, hst0, by rw [List.drop_zero]⟩
  rintro m s' ⟨i, W₁, S₁, rfl, hi, l₁, I₁, hwr₁, hSt, hgo⟩
  by_cases hlt : i < l.length
  · refine Wk.item i s' _ _ hlt hSt fun v h' tk hPv hSt' hk => ?_
    obtain ⟨a, ha, hrep⟩ := hP i v hPv hlt
    have hdrop : l.drop i = a :: l.drop (i + 1) := by
      have := List.getElem?_eq_some_iff.mp ha
      rw [← this.2]; exact List.drop_eq_getElem_cons hlt
    rw [hdrop] at hgo
    have I₂ : Inv C X W₁ S₁ { s' with heap := h', toks := tk } := I₁.heap fun b o tr e => hk b o (fun q => by
      rcases tr with ⟨_, z⟩ | ⟨_, z⟩
      · rw [(hwr₁ b q).1] at z; cases z
      · rw [(hwr₁ b q).2] at z; cases z) e
    -- the iterator is held
    have I₃ := I₂.hold (bs := wr) (fun b q => (hwr₁ b q).1) fun b q => (hwr₁ b q).2
    have l₃ : W.le false (W₁.hold h' wr) := l₁.trans (Wd.le.hold fun b q => (hwr₁ b q).2)
    have hrep₃ : VRep C (W₁.hold h' wr).g (W₁.hold h' wr).labs a v := VRep.mono l₁.g l₁.labs hrep
    have hown' : wpAny C.M X.A (letOwnedTupleGo t (.ref Ia) v) (fun _ s'' => s'' = { s' with heap := h', toks := tk }) (fun _ _ => False) { s' with heap := h', toks := tk } := by
      rcases ht with ⟨x, p, rfl⟩ | ⟨ts, k, q, rfl⟩
      · exact wpAny_pure rfl
      · rcases hown ts k q v with h | h
        · rw [h]; exact wpAny_pure rfl
        · exact h _ _ _ ⟨i + 1, hSt'⟩ rfl
    refine wpAny_mono hown' (fun _ s₂ hs₂ => ?_) fun _ _ x => x.elim
    subst hs₂
    have hasg := snd_assignT F I₃ hst hrep₃
    unfold Snd at hasg
    have hsta : ∃ Sa, assignT t a S₁ = .ok () Sa := by
      cases hA : assignT t a S₁ with
      | ok u Sa => exact ⟨Sa, rfl⟩
      | exc c Sa => rw [assignT_eq] at hA; cases hb : bindT t a <;> rw [hb] at hA <;> simp [wrAll_eq] at hA
      | stuck =>
        exfalso
        apply hne
        rw [← hgo]
        show bnd (assignT t a) _ S₁ = _
        unfold bnd; rw [hA]
    obtain ⟨Sa, hA⟩ := hsta
    rw [hA] at hasg
    have hgo' : (bnd dbody fun f => match f with | .next | .cont => forGo t dbody (l.drop (i + 1)) | .brk => pur .next | .ret v => pur (.ret v)) Sa = forGo t dbody l S := by
      rw [← hgo]
      show _ = bnd (assignT t a) _ S₁
      unfold bnd; rw [hA] <;> rfl
    refine wpAny_mono hasg (fun _ s₃ ⟨W₄, l₄, I₄, _⟩ => ?_) fun _ _ x => x.elim
    have hb := hbody W₄ Sa s₃ I₄
    unfold Snd at hb
    have l₄' : W.le false W₄ := l₃.trans l₄
    -- after a turn: let go
    have back : ∀ {W₅ : Wd} {S₅ : Mine.S} {s₅ : Shared}, W₄.le false W₅ → Inv C X W₅ S₅ s₅ → Inv C X (W₅.drop wr) S₅ s₅ ∧ W.le false (W₅.drop wr) ∧ St (i + 1) s₅.heap ∧ ∀ b ∈ wr, (W₅.drop wr).g b = none ∧ (W₅.drop wr).role b = none := fun {W₅ S₅ s₅} l₅ I₅ => by
      have l₅' := l₄.trans l₅
      have hheld : ∀ b ∈ wr, ∃ o, h'.get? b = some o ∧ W₅.role b = some (.held o) := fun b q => by
        obtain ⟨o, e⟩ := hex (i + 1) h' hSt' b q
        exact ⟨o, e, l₅'.held b o (by show (if b ∈ wr then (h'.get? b).map Role.held else _) = _; rw [if_pos q, e]; rfl)⟩
      have hcw : ∀ x c, X.env.cells.lookup x = some c → c ∉ wr := fun x c e q => by
        have := (I₁.cells x c e).1 hfn
        rw [(hwr₁ c q).2] at this; cases this
      refine ⟨I₅.drop (fun b q r e => by obtain ⟨o, _, z⟩ := hheld b q; rw [z] at e; cases e; exact ⟨o, rfl⟩) hcw, l₁.trans (Wd.le.drop (fun b q => (hwr₁ b q).2) l₅'), ?_, fun b q => ⟨?_, if_pos q⟩⟩
      · refine Wk.frame (i + 1) h' s₅.heap hSt' fun b hb o e => ?_
        by_cases hq : b ∈ wr
        · obtain ⟨o', z1, z2⟩ := hheld b hq
          rw [e] at z1; cases z1
          exact I₅.held b o z2
        · obtain ⟨o', z⟩ := hfp b hb hq
          have z1 := I₂.keeps b o' (l₁.g b o' z)
          have z2 := I₅.keeps b o' (l₅.g b o' (l₄'.g b o' z))
          have z1' : h'.get? b = some o' := z1
          rw [e] at z1'; cases z1'; exact z2
      · obtain ⟨o', z1, z2⟩ := hheld b q
        exact (I₅.apart b _ z2).1
    cases hbo : dbody Sa with
    | stuck => exfalso; apply hne; rw [← hgo']; unfold bnd; rw [hbo]
    | exc c S₅ =>
      rw [hbo] at hb
      refine wpAny_mono hb (fun _ _ x => x.elim) fun e s₅ ⟨W₅, l₅, I₅, t₅⟩ => ?_
      obtain ⟨I₆, l₆, _, _⟩ := back l₅ I₅
      exact noted_exc F (o := forGo t dbody l S) (by rw [← hgo']; unfold bnd; rw [hbo]) l₆ I₆ t₅.drop fun e s' q => hRe e s' q
    | ok f S₅ =>
      rw [hbo] at hb
      refine wpAny_mono hb (fun fl s₅ ⟨W₅, l₅, I₅, r₅⟩ => ?_) fun _ _ x => x.elim
      obtain ⟨I₆, l₆, hSt₆, hwr₆⟩ := back l₅ I₅
      have hgo₆ : (match f with | .next | .cont => forGo t dbody (l.drop (i + 1)) | .brk => pur .next | .ret v => pur (.ret v)) S₅ = forGo t dbody l S := by
        rw [← hgo']; unfold bnd; rw [hbo]
      cases f <;> cases fl <;> first | exact r₅.elim | skip
      · exact ⟨l.length + 1 - (i + 1), by omega, i + 1, _, S₅, rfl, hlt, l₆, I₆, hwr₆, hSt₆, hgo₆⟩
      · refine hR _ _ ?_
        rw [← hgo₆]
        exact ⟨_, l₆, I₆, trivial⟩
      · exact ⟨l.length + 1 - (i + 1), by omega, i + 1, _, S₅, rfl, hlt, l₆, I₆, hwr₆, hSt₆, hgo₆⟩
      · refine hR _ _ ?_
        rw [← hgo₆]
        exact ⟨_, l₆, I₆, r₅⟩
  · have hieq : i = l.length := by omega
    rw [hieq] at hSt
    refine Wk.done s' _ _ hSt fun h' tk hk => ?_
    dsimp only
    rw [execs_nil]
    refine wpAny_pure (hR _ _ ?_)
    rw [← hgo, hieq, List.drop_length]
    refine ⟨W₁, l₁, I₁.heap fun b o tr e => hk b o (fun q => ?_) e, trivial⟩
    rcases tr with ⟨_, z⟩ | ⟨_, z⟩
    · rw [(hwr₁ b q).1] at z; cases z
    · rw [(hwr₁ b q).2] at z; cases z
end
end Mine
end
section
set_option autoImplicit false
set_option linter.unusedVariables false
namespace Mine
open PySem PyProof.Rows

section
variable {C : Cx} {X : Fx} {W : Wd} {S : S} {s : Shared} {n : Nat} {sc : List (Str × NameKind)}

/-- a value that an iterator over its items is made of -/
noncomputable def RIv (C : Cx) (X : Fx) : Wd → Heap → AV → Value → Prop := fun W h a v => ∃ l, a = .lst l ∧ ∀ (S : Mine.S) (s : Shared), Inv C X W S s → s.heap = h → ∀ (Q : Value → Shared → Prop) (E : Value → Shared → Prop),
  (∀ it h' tk, W.sim s.heap h' → IterAt C X W h' l it → Q it { s with heap := h', toks := tk }) → wpAny C.M X.A (pyIter v) Q E s
noncomputable def SndI (C : Cx) (n : Nat) (sc : List (Str × NameKind)) (e : Expr) (d : D AV) : Prop :=
  ∀ (X : Fx) (W : Wd) (S : Mine.S) (s : Shared), FxOk C n X sc → Inv C X W S s → Snd C X true (RIv C X) (eval e X.env) d W S s

theorem owned_listiter {I l : Addr} {i : Nat} {ts : List Expr} {k : Nat} {p : Pos} {v : Value} {Q : Unit → Shared → Prop} {E : Value → Shared → Prop} (hit : ∃ o, s.heap.get? I = some o ∧ o.cls = .type "list_iterator" ∧ o.data = .fields #[.ref l, .int i 0]) (hQ : Q () s) :
    wpAny C.M X.A (letOwnedTupleGo (.Tuple ts k p) (.ref I) v) Q E s := by
  obtain ⟨o, h1, h2, h3⟩ := hit
  unfold letOwnedTupleGo
  cases v <;> first | exact wpAny_pure hQ | skip
  refine wpAny_bind (wpAny_load h1 ?_)
  rw [h2, h3]
  exact wpAny_pure hQ
theorem owned_tupleiter {I l : Addr} {i : Nat} {ts : List Expr} {k : Nat} {p : Pos} {v : Value} {Q : Unit → Shared → Prop} {E : Value → Shared → Prop} (hit : ∃ o, s.heap.get? I = some o ∧ o.cls = .type "tuple_iterator" ∧ o.data = .fields #[.ref l, .int i 0]) (hQ : Q () s) :
    wpAny C.M X.A (letOwnedTupleGo (.Tuple ts k p) (.ref I) v) Q E s := by
  obtain ⟨o, h1, h2, h3⟩ := hit
  unfold letOwnedTupleGo
  cases v <;> first | exact wpAny_pure hQ | skip
  refine wpAny_bind (wpAny_load h1 ?_)
  rw [h2, h3]
  exact wpAny_pure hQ

theorem RIv.of_val (F : FxOk C n X sc) {a : AV} {v : Value} {l : List AV} {h : Heap} (r : VRep C W.g W.labs a v) (hi : itemsV a = some l) : RIv C X W h (.lst l) v := by
  refine ⟨l, rfl, fun S s I hh Q E hQ => ?_⟩
  unfold itemsV at hi
  split at hi <;> first | (cases hi; done) | skip
  · cases hi
    simp only [VRep] at r
    obtain ⟨ad, vs, rfl, hg, hsz, hv⟩ := r
    have hlen := hv.length
    rw [Array.length_toList] at hlen
    refine wpAny_pyIter_tuple (hg.heap I.keeps) (hQ _ _ s.toks .push ?_)
    obtain ⟨n', hg'⟩ := hg
    have hne : ad ≠ s.heap.objs.size := Nat.ne_of_lt (Heap.lt_size (I.keeps _ _ hg'))
    refine ⟨[s.heap.objs.size], s.heap.objs.size, _, _, _, rfl, hlen ▸ Walks.tuple F.hd s.heap.objs.size ad hne vs, ?_, ?_, ?_, ?_, ?_, ?_⟩
    · exact ⟨⟨_, Heap.get?_push_size _ rfl, rfl, rfl⟩, ⟨_, Heap.get?_push_of_some _ (I.keeps _ _ hg'), rfl, n', rfl⟩⟩
    · intro i v hv' hlt
      have : l[i]? = some l[i] := List.getElem?_eq_getElem hlt
      obtain ⟨v', q1, q2⟩ := hv.get this
      refine ⟨_, this, ?_⟩
      have : vs[i]? = some v' := by simpa using q1
      have hv'' : vs[i]? = some v := hv'
      rw [hv''] at this; cases this; exact q2
    · intro b hb
      rw [List.mem_singleton] at hb; subst hb
      exact (I.fresh get?_size).symm
    · intro b hb hn
      rcases List.mem_cons.mp hb with rfl | hb
      · exact absurd List.mem_cons_self hn
      · rw [List.mem_singleton] at hb; subst hb; exact ⟨_, hg'⟩
    · rintro i h' ⟨⟨o, q, _⟩, _⟩ b hb
      rw [List.mem_singleton] at hb; subst hb; exact ⟨o, q⟩
    · intro ts k p v
      refine .inr fun s' Q' E' ⟨j, hj, _⟩ hq => owned_tupleiter hj hq
  · cases hi
    simp only [VRep] at r
    obtain ⟨ad, vs, rfl, hg, hsz, hv⟩ := r
    have hlen := hv.length
    rw [Array.length_toList] at hlen
    refine wpAny_pyIter_list (hg.heap I.keeps) (hQ _ _ s.toks .push ?_)
    obtain ⟨n', hg'⟩ := hg
    have hne : ad ≠ s.heap.objs.size := Nat.ne_of_lt (Heap.lt_size (I.keeps _ _ hg'))
    refine ⟨[s.heap.objs.size], s.heap.objs.size, _, _, _, rfl, hlen ▸ Walks.list F.hd s.heap.objs.size ad hne vs, ?_, ?_, ?_, ?_, ?_, ?_⟩
    · exact ⟨⟨_, Heap.get?_push_size _ rfl, rfl, rfl⟩, ⟨_, Heap.get?_push_of_some _ (I.keeps _ _ hg'), rfl, n', rfl⟩⟩
    · intro i v hv' hlt
      have : l[i]? = some l[i] := List.getElem?_eq_getElem hlt
      obtain ⟨v', q1, q2⟩ := hv.get this
      refine ⟨_, this, ?_⟩
      have : vs[i]? = some v' := by simpa using q1
      have hv'' : vs[i]? = some v := hv'
      rw [hv''] at this; cases this; exact q2
    · intro b hb
      rw [List.mem_singleton] at hb; subst hb
      exact (I.fresh get?_size).symm
    · intro b hb hn
      rcases List.mem_cons.mp hb with rfl | hb
      · exact absurd List.mem_cons_self hn
      · rw [List.mem_singleton] at hb; subst hb; exact ⟨_, hg'⟩
    · rintro i h' ⟨⟨o, q, _⟩, _⟩ b hb
      rw [List.mem_singleton] at hb; subst hb; exact ⟨o, q⟩
    · intro ts k p v
      refine .inr fun s' Q' E' ⟨j, hj, _⟩ hq => owned_listiter hj hq
  · simp only [VRep] at r

theorem sndI_val {e : Expr} {d : D AV} (h : SndE C n sc e d) : SndI C n sc e (post .i d) := fun X W S s F I => by
  show Snd C X true (RIv C X) (eval e X.env) (bnd d fun c => Mine.opt ((itemsV c).map .lst)) W S s
  have h1 := h X W S s F I
  unfold Snd at h1
  unfold Snd bnd
  cases hd : d S with
  | stuck => trivial
  | exc c S' => rw [hd] at h1; exact h1
  | ok a S' =>
    rw [hd] at h1
    dsimp only [Mine.opt]
    cases hi : itemsV a with
    | none => trivial
    | some l => exact wpAny_mono h1 (fun v s' ⟨W', l', I', r⟩ => ⟨W', l', I', RIv.of_val F r hi⟩) fun _ _ x => x

theorem folded_plain {it : Expr} {env : Env} (h : ∀ a b c, it ≠ .Set a b c) (x : Value) : foldedSetIterable it env x = Pure.pure x := by
  cases it <;> first | rfl | exact absurd rfl (h _ _ _)

theorem tgt_store {t : Expr} (hf : X.fn = true) (h : tgtOk sc t = true) : (∀ x p, (t = .Name x p ∨ ∃ ts k q, t = .Tuple ts k q ∧ Expr.Name x p ∈ ts) → StOk X sc x) ∧ ((∃ x p, t = .Name x p) ∨ ∃ ts k q, t = .Tuple ts k q) := by
  have key : ∀ {x}, isSt sc x = true → StOk X sc x := fun {x} q => by
    obtain ⟨z | z, _⟩ := isSt_spec q
    · exact .inl z
    · exact .inr ⟨hf, z⟩
  unfold tgtOk at h
  cases t <;> first | (cases h; done) | skip
  · rename_i x p
    refine ⟨fun y q hq => ?_, .inl ⟨x, p, rfl⟩⟩
    rcases hq with hq | ⟨_, _, _, hq, _⟩
    · cases hq; exact key h
    · cases hq
  · rename_i ts k p
    refine ⟨fun y q hq => ?_, .inr ⟨ts, k, p, rfl⟩⟩
    rcases hq with hq | ⟨_, _, _, hq, hm⟩
    · cases hq
    · cases hq
      have := List.all_eq_true.mp h _ hm
      exact key this

theorem sndS_for {t it : Expr} {body : List Stmt} {p : Pos} {dit : D AV} {dbody : D Fl} (hset : ∀ a b c, it ≠ .Set a b c) (hi : SndI C n sc it dit) (hb : SndSs C n sc body dbody) (ht : tgtOk sc t = true) :
    SndS C n sc (.For t it body [] p) (bnd dit fun l => match l with | .lst l => forGo t dbody l | _ => stk) := fun X W S s F hf I => by
  have h1 := hi X W S s F I
  obtain ⟨hst, htt⟩ := tgt_store (X := X) hf ht
  unfold Snd at h1
  unfold Snd bnd
  cases hd : dit S with
  | stuck => trivial
  | exc c S' =>
    rw [hd] at h1
    refine wpAny_For (wpAny_mono h1 (fun _ _ x => x.elim) fun e s' ⟨W', l, r⟩ => ⟨W', l.weak, r⟩) (folded_plain hset)
  | ok a S' =>
    rw [hd] at h1
    dsimp only
    cases a <;> first | trivial | skip
    rename_i l
    dsimp only
    have main : ∀ (Q : Flow → Shared → Prop) (E : Value → Shared → Prop) (W₁ : Wd), W.le true W₁ → (∀ f s', FlP C X W₁ (forGo t dbody l S') f s' → Q f s') → (∀ e s', ExP C X W₁ (forGo t dbody l S') e s' → E e s') → forGo t dbody l S' ≠ .stuck →
        ∀ v s₁, Inv C X W₁ S' s₁ → RIv C X W₁ s₁.heap (.lst l) v → wpAny C.M X.A (pyIter v) (fun it s₂ => codeAny C.M X.A (.forLoop t it body [] X.env) (fun r s' => match r with | .ok f => Q f s' | .error e => cameBackBy C.M X.A X.env E e s') s₂) E s₁ := by
      intro Q E W₁ l₁ hQ hE hne v s₁ I₁ ⟨l', hl', hit⟩
      cases hl'
      refine hit S' s₁ I₁ rfl _ _ fun it h' tk hsim hat => ?_
      have I₂ := I₁.heap (tk := tk) hsim
      refine codeAny_for F hf hst (fun W S s I => hb X W S s F hf I) htt I₂ hat hne (fun f s' q => hQ f s' q) fun e s' q => ?_
      cases ho : forGo t dbody l S' with
      | stuck => exact absurd ho hne
      | ok _ _ => rw [ho] at q; exact q.elim
      | exc c S'' =>
        rw [ho] at q
        obtain ⟨W', l', I', t'⟩ := q
        exact wp_cameBack I' t' fun s'' I'' t'' => hE _ _ (by rw [ho]; exact ⟨W', l', I'', t''⟩)
    cases ho : forGo t dbody l S' with
    | stuck => trivial
    | ok f S'' =>
      refine wpAny_For (wpAny_mono h1 (fun v s₁ ⟨W₁, l₁, I₁, r₁⟩ => ?_) fun _ _ x => x.elim) (folded_plain hset)
      refine main _ _ W₁ l₁ (fun f' s' q => ?_) (fun e s' q => ?_) (by rw [ho]; exact fun z => nomatch z) v s₁ I₁ r₁
      · rw [ho] at q; obtain ⟨W', l', r⟩ := q; exact ⟨W', l₁.weak.trans l', r⟩
      · rw [ho] at q; exact q.elim
    | exc c S'' =>
      refine wpAny_For (wpAny_mono h1 (fun v s₁ ⟨W₁, l₁, I₁, r₁⟩ => ?_) fun _ _ x => x.elim) (folded_plain hset)
      refine main _ _ W₁ l₁ (fun f' s' q => ?_) (fun e s' q => ?_) (by rw [ho]; exact fun z => nomatch z) v s₁ I₁ r₁
      · rw [ho] at q; exact q.elim
      · rw [ho] at q; obtain ⟨W', l', I', t'⟩ := q; exact ⟨W', l₁.weak.trans l', I', t'.weak⟩
end
end Mine
end
section
set_option autoImplicit false
set_option linter.unusedVariables false
namespace Mine
open PySem PyProof.Rows

section
variable {prog : Program} {w : World} {A : Around} {R : Result → Shared → Prop} {s : Shared}
theorem codeAny_compLoop_own {elt target iter : Expr} {ifs : List Expr} {scope : Scope} {pos : Pos} {it acc : Value} {env : Env} (I : Nat → Shared → Prop)
    (turn : ∀ n s, I n s → wpAny (model prog w) A (pyNext it) (fun r s₁ => match r with
      | none => R (.ok .next) s₁
      | some v => wpAny (model prog w) A (letOwnedTupleGo target it v) (fun _ s₁' => wpAny (model prog w) A (assign target env v) (fun _ s₂ =>
          wpAny (model prog w) A (forIn ifs true fun c r => if r = true then do let ok ← isTrue c env (eval c env); pure (ForInStep.yield ok) else pure (ForInStep.yield r)) (fun ok s₃ =>
            if ok = true then wpAny (model prog w) A (eval elt env) (fun x s₄ =>
              wpAny (model prog w) A (call (.builtin "list.append") [acc, x]) (fun _ s₅ => ∃ m, m < n ∧ I m s₅) (notedBy (model prog w) A env fun e s' => R (.error e) s') s₄) (notedBy (model prog w) A env fun e s' => R (.error e) s') s₃
            else ∃ m, m < n ∧ I m s₃) (notedBy (model prog w) A env fun e s' => R (.error e) s') s₂) (notedBy (model prog w) A env fun e s' => R (.error e) s') s₁') (notedBy (model prog w) A env fun e s' => R (.error e) s') s₁) (notedBy (model prog w) A env fun e s' => R (.error e) s') s)
    (n : Nat) (h : I n s) : codeAny (model prog w) A (.compLoop (.ListComp elt [⟨target, iter, ifs, 0⟩] scope pos) 0 it acc env) R s := by
  refine codeAny_loop rfl I (fun n s hI => ?_) n h
  show wpAny _ A ((compTurn (.ListComp elt [⟨target, iter, ifs, 0⟩] scope pos) 0 it acc env).onRaise (fun x => do noteFrame x env; theTreesLotGoes x)) _ _ s
  refine wpAny_noted ?_
  rw [compTurn_list]
  refine wpAny_bind (wpAny_standAt (wpAny_bind (wpAny_mono (turn n s hI) (fun r s₁ h₁ => ?_) fun _ _ h' => h')))
  cases r with
  | none => exact wpAny_pure h₁
  | some v =>
    refine wpAny_bind (wpAny_mono h₁ (fun _ s₁' h₁' => ?_) fun _ _ h' => h')
    refine wpAny_bind (wpAny_mono h₁' (fun _ s₂ h₂ => wpAny_bind (wpAny_mono h₂ (fun ok s₃ h₃ => ?_) fun _ _ h' => h')) fun _ _ h' => h')
    cases ok with
    | false => exact wpAny_pure ⟨rfl, h₃⟩
    | true => exact wpAny_bind (wpAny_bind (wpAny_mono h₃ (fun x s₄ h₄ => wpAny_bind (wpAny_mono h₄ (fun _ s₅ h₅ => wpAny_pure (wpAny_pure ⟨rfl, h₅⟩)) fun _ _ h' => h')) fun _ _ h' => h'))
end

section
variable {C : Cx} {X : Fx} {W : Wd} {S : S} {s : Shared} {n : Nat} {sc : List (Str × NameKind)}

theorem Inv.reloc (I : Inv C X W S s) {loc : Loc} (h : ∀ x lv, getA x loc = some lv → ∃ v, W.val x = some v ∧ LRep C W s.heap (.own x) lv v) : Inv C X W ⟨loc, S.st⟩ s :=
  { stat := I.stat, sh := I.sh, keeps := I.keeps, apart := I.apart, kept := I.kept, held := I.held, frs := I.frs, rloc := I.rloc, ns := I.ns, cells := I.cells, vars := h, lab := I.lab, objs := I.objs }

/-- captured variables -/
noncomputable def CapOk (C : Cx) (X : Fx) (W : Wd) (cap : Loc) : Prop := ∀ x lv, getA x cap = some lv → (∃ c, X.env.cells.lookup x = some c ∧ (X.env.kindOf x = some .cell ∨ X.env.kindOf x = some .free)) ∧ ∃ v a, W.val x = some v ∧ lv = .val a ∧ VRep C W.g W.labs a v
theorem CapOk.next {cap : Loc} {ev : Bool} {W₁ : Wd} {S₁ : Mine.S} {s₁ : Shared} (h : CapOk C X W cap) (hfn : X.fn = false) (I : Inv C X W S s) (I₁ : Inv C X W₁ S₁ s₁) (l : W.le ev W₁) : CapOk C X W₁ cap := fun x lv e => by
  obtain ⟨⟨c, hc, hk⟩, v, a, h1, h2, h3⟩ := h x lv e
  refine ⟨⟨c, hc, hk⟩, v, a, ?_, h2, h3.le l⟩
  obtain ⟨_, q2, q3⟩ := I.cells x c hc
  obtain ⟨o, ho⟩ := q2 hfn
  obtain ⟨o', z1, z2⟩ := q3 hk
  rw [I.held c o ho] at z1; cases z1
  obtain ⟨o'', y1, y2⟩ := (I₁.cells x c hc).2.2 hk
  rw [I₁.held c o (l.held c o ho)] at y1; cases y1
  rw [z2] at y2
  have y3 : W.val x = W₁.val x := by injection y2
  rw [← y3]; exact h1
theorem CapOk.inv {cap : Loc} (h : CapOk C X W cap) (I : Inv C X W S s) : Inv C X W ⟨cap, S.st⟩ s := I.reloc fun x lv e => by
  obtain ⟨_, v, a, h1, rfl, h3⟩ := h x lv e
  exact ⟨v, h1, h3⟩

noncomputable def preO (done : List AV) : Out (List AV) → Out (List AV)
  | .ok vs s => .ok (done ++ vs) s
  | o => o
theorem preO_cons {done : List AV} {v : AV} {o : Out (List AV)} : preO done (consO v o) = preO (done ++ [v]) o := by cases o <;> simp [preO, consO]

/-- how a comprehension's loop ends -/
noncomputable def CmP (C : Cx) (X : Fx) (W : Wd) (D : Addr) (o : Out (List AV)) : Result → Shared → Prop := fun r s' =>
  match o, r with
  | .ok vs S', .ok .next => ∃ W' Sx ys, W.le false W' ∧ Inv C X W' Sx s' ∧ Sx.st = S'.st ∧ s'.heap.PlainList D ys ∧ ys.size ≤ lim ∧ VReps C W'.g W'.labs vs ys.toList ∧ W'.g D = none ∧ W'.role D = none
  | .exc c S', .error e => ∃ W' Sx, W.le false W' ∧ Inv C X W' Sx s' ∧ Sx.st = S'.st ∧ IsTraced C W' s'.heap c e
  | .stuck, _ => True
  | _, _ => False

theorem snd_tests {ifs : List Expr} {tests : List (D AV)} (h : TrT C X ifs tests) (I : Inv C X W S s) :
    Snd C X true RB (forIn ifs true fun c r => if r = true then do let ok ← isTrue c X.env (eval c X.env); Pure.pure (ForInStep.yield ok) else Pure.pure (ForInStep.yield r)) (testD tests) W S s := by
  cases ifs with
  | nil =>
    cases tests with
    | nil => exact Snd.wp (m := Pure.pure true) (Snd.pure I rfl) fun Q E q => q
    | cons _ _ => exact h.elim
  | cons e es =>
    cases tests with
    | nil => exact h.elim
    | cons d ds =>
      cases es with
      | nil =>
        cases ds with
        | nil => exact (h.1 W S s I).wp fun Q E q => wpAny_tests_one q
        | cons _ _ => exact h.2.elim
      | cons e' es =>
        cases ds with
        | nil => exact h.2.elim
        | cons _ _ => exact Snd.stk

theorem codeAny_comp (F : FxOk C n X sc) (hfn : X.fn = false) {t elt iter : Expr} {ifs : List Expr} {scope : Scope} {pos : Pos} {delt : D AV} {tests : List (D AV)} {l : List AV} {it : Value} {D : Addr} {cap : Loc} {wr : List Addr}
    (hst : ∀ x p, (t = .Name x p ∨ ∃ ts k q, t = .Tuple ts k q ∧ Expr.Name x p ∈ ts) → StOk X sc x)
    (htt : (∃ x p, t = .Name x p) ∨ ∃ ts k q, t = .Tuple ts k q)
    (helt : ∀ (W : Wd) (S : Mine.S) (s : Shared), Inv C X W S s → Snd C X true (RV C) (eval elt X.env) delt W S s) (htests : TrT C X ifs tests)
    (I : Inv C X W S s) (hcap : CapOk C X W cap) (hit : IterW C X W s.heap l it wr) (hlen : l.length ≤ lim) (hD : s.heap.PlainList D #[]) (hDg : W.g D = none) (hDr : W.role D = none) (hDw : D ∉ wr)
    (hcw : ∀ x c, X.env.cells.lookup x = some c → c ∉ wr)
    (hne : compGo t delt tests cap l S.st ≠ .stuck) {R : Result → Shared → Prop} (hR : ∀ r s', CmP C X W D (compGo t delt tests cap l S.st) r s' → R r s') :
    codeAny C.M X.A (.compLoop (.ListComp elt [⟨t, iter, ifs, 0⟩] scope pos) 0 it (.ref D) X.env) R s := by
  obtain ⟨Ia, fp, P, St, rfl, Wk, hst0, hP, hwr, hfp, hex, hown⟩ := hit
  refine codeAny_compLoop_own (fun m s' => ∃ i W' S' done ys, m = l.length + 1 - i ∧ i ≤ l.length ∧ W.le false W' ∧ Inv C X W' S' s' ∧ CapOk C X W' cap ∧ (∀ b ∈ D :: wr, W'.g b = none ∧ W'.role b = none) ∧ St i s'.heap ∧ s'.heap.PlainList D ys ∧ ys.size ≤ i ∧
      VReps C W'.g W'.labs done ys.toList ∧ preO done (compGo t delt tests cap (l.drop i) S'.st) = compGo t delt tests cap l S.st) ?_ (l.length + 1)
    ⟨0, W, S, [], #[], rfl, Nat.zero_le _, .refl, I, hcap, ?_, hst0, hD, Nat.zero_le _, VReps.nil, by rw [List.drop_zero]; cases compGo t delt tests cap l S.st <;> rfl⟩
  case refine_2 =>
    intro b hb
    rcases List.mem_cons.mp hb with rfl | hb
    · exact ⟨hDg, hDr⟩
    · exact hwr b hb
  rintro m s' ⟨i, W₁, S₁, done, ys, rfl, hi, l₁, I₁, hcap₁, hbs, hSt, hys, hysz, hdone, hgo⟩
  have hwr₁ : ∀ b ∈ wr, W₁.g b = none ∧ W₁.role b = none := fun b hb => hbs b (List.mem_cons_of_mem _ hb)
  have hD₁ := hbs D List.mem_cons_self
  by_cases hlt : i < l.length
  · refine Wk.item i s' _ _ hlt hSt fun v h' tk hPv hSt' hk => ?_
    obtain ⟨a, ha, hrep⟩ := hP i v hPv hlt
    have hdrop : l.drop i = a :: l.drop (i + 1) := by
      have := List.getElem?_eq_some_iff.mp ha
      rw [← this.2]; exact List.drop_eq_getElem_cons hlt
    rw [hdrop] at hgo
    have I₂ : Inv C X W₁ S₁ { s' with heap := h', toks := tk } := I₁.heap fun b o tr e => hk b o (fun q => by
      rcases tr with ⟨_, z⟩ | ⟨_, z⟩
      · rw [(hwr₁ b q).1] at z; cases z
      · rw [(hwr₁ b q).2] at z; cases z) e
    have hys₂ : h'.PlainList D ys := hys.at fun o e => hk D o hDw e
    have I₃ := I₂.hold (bs := D :: wr) (fun b q => (hbs b q).1) fun b q => (hbs b q).2
    have lh : W₁.le true (W₁.hold h' (D :: wr)) := Wd.le.hold fun b q => (hbs b q).2
    have l₃ : W.le false (W₁.hold h' (D :: wr)) := l₁.trans lh.weak
    have hrep₃ : VRep C (W₁.hold h' (D :: wr)).g (W₁.hold h' (D :: wr)).labs a v := VRep.mono l₁.g l₁.labs hrep
    have hcap₃ := hcap₁.next hfn I₁ I₃ lh
    have I₃' := hcap₃.inv I₃
    have hown' : wpAny C.M X.A (letOwnedTupleGo t (.ref Ia) v) (fun _ s'' => s'' = { s' with heap := h', toks := tk }) (fun _ _ => False) { s' with heap := h', toks := tk } := by
      rcases htt with ⟨x, p, rfl⟩ | ⟨ts, k, q, rfl⟩
      · exact wpAny_pure rfl
      · rcases hown ts k q v with h | h
        · rw [h]; exact wpAny_pure rfl
        · exact h _ _ _ ⟨i + 1, hSt'⟩ rfl
    refine wpAny_mono hown' (fun _ s₂ hs₂ => ?_) fun _ _ x => x.elim
    subst hs₂
    have hasg := snd_assignT F I₃' hst hrep₃
    unfold Snd at hasg
    have hgoU : compGo t delt tests cap (a :: l.drop (i + 1)) S₁.st = bnd (assignT t a) (fun _ => bnd (testD tests) fun b => if b then bnd delt fun v => fun s => consO v (compGo t delt tests cap (l.drop (i + 1)) s.st) else fun s => compGo t delt tests cap (l.drop (i + 1)) s.st) ⟨cap, S₁.st⟩ := rfl
    have hne₁ : compGo t delt tests cap (a :: l.drop (i + 1)) S₁.st ≠ .stuck := fun q => hne (by rw [← hgo, q]; rfl)
    have hsta : ∃ Sa, assignT t a ⟨cap, S₁.st⟩ = .ok () Sa := by
      cases hA : assignT t a ⟨cap, S₁.st⟩ with
      | ok u Sa => exact ⟨Sa, rfl⟩
      | exc c Sa => rw [assignT_eq] at hA; cases hb : bindT t a <;> rw [hb] at hA <;> simp [wrAll_eq] at hA
      | stuck => exact absurd (by rw [hgoU]; unfold bnd; rw [hA]) hne₁
    obtain ⟨Sa, hA⟩ := hsta
    rw [hA] at hasg
    rw [hgoU] at hgo hne₁
    have hgo₂ : ∀ x : Unit → Mine.D (List AV), bnd (assignT t a) x ⟨cap, S₁.st⟩ = (x () Sa : Out (List AV)) := fun x => by unfold bnd; rw [hA]
    rw [hgo₂] at hgo hne₁
    refine wpAny_mono hasg (fun _ s₃ ⟨W₄, l₄, I₄, _⟩ => ?_) fun _ _ x => x.elim
    have l₄' : W.le false W₄ := l₃.trans l₄
    have hcap₄ := hcap₃.next hfn I₃ I₄ l₄
    -- after a turn: let go
    have back : ∀ {W₅ : Wd} {S₅ : Mine.S} {s₅ : Shared}, W₄.le false W₅ → Inv C X W₅ S₅ s₅ → Inv C X (W₅.drop (D :: wr)) S₅ s₅ ∧ W.le false (W₅.drop (D :: wr)) ∧ St (i + 1) s₅.heap ∧ (∀ b ∈ D :: wr, (W₅.drop (D :: wr)).g b = none ∧ (W₅.drop (D :: wr)).role b = none) ∧
        s₅.heap.PlainList D ys ∧ VReps C W₅.g W₅.labs done ys.toList ∧ CapOk C X (W₅.drop (D :: wr)) cap := fun {W₅ S₅ s₅} l₅ I₅ => by
      have l₅' := l₄.trans l₅
      have hheld : ∀ b ∈ D :: wr, ∃ o, h'.get? b = some o ∧ W₅.role b = some (.held o) := fun b q => by
        have : ∃ o, h'.get? b = some o := by
          rcases List.mem_cons.mp q with rfl | q
          · obtain ⟨k, z⟩ := hys₂; exact ⟨_, z⟩
          · exact hex (i + 1) h' hSt' b q
        obtain ⟨o, e⟩ := this
        exact ⟨o, e, l₅'.held b o (by show (if b ∈ D :: wr then (h'.get? b).map Role.held else _) = _; rw [if_pos q, e]; rfl)⟩
      have hcw' : ∀ x c, X.env.cells.lookup x = some c → c ∉ D :: wr := fun x c e q => by
        obtain ⟨o, this⟩ := (I₁.cells x c e).2.1 hfn
        rw [(hbs c q).2] at this; cases this
      have Id := I₅.drop (bs := D :: wr) (fun b q r e => by obtain ⟨o, _, z⟩ := hheld b q; rw [z] at e; cases e; exact ⟨o, rfl⟩) hcw'
      have ld : W₁.le false (W₅.drop (D :: wr)) := Wd.le.drop (fun b q => (hbs b q).2) l₅'
      refine ⟨Id, l₁.trans ld, ?_, fun b q => ⟨?_, if_pos q⟩, ?_, ?_, hcap₁.next hfn I₁ Id ld⟩
      · refine Wk.frame (i + 1) h' s₅.heap hSt' fun b hb o e => ?_
        by_cases hq : b ∈ wr
        · obtain ⟨o', z1, z2⟩ := hheld b (List.mem_cons_of_mem _ hq)
          rw [e] at z1; cases z1
          exact I₅.held b o z2
        · obtain ⟨o', z⟩ := hfp b hb hq
          have z1 := I₂.keeps b o' (l₁.g b o' z)
          have z2 := I₅.keeps b o' (l₅.g b o' (l₄'.g b o' z))
          have z1' : h'.get? b = some o' := z1
          rw [e] at z1'; cases z1'; exact z2
      · obtain ⟨o', z1, z2⟩ := hheld b q
        exact (I₅.apart b _ z2).1
      · obtain ⟨o', z1, z2⟩ := hheld D List.mem_cons_self
        exact hys₂.at fun o e => by have q : some o = some o' := e.symm.trans z1; cases q; exact I₅.held D _ z2
      · exact hdone.mono ld.g ld.labs
    have hgo₃ : ∀ x : Bool → Mine.D (List AV), (bnd (testD tests) x) Sa = match testD tests Sa with | .ok b S' => (x b S' : Out (List AV)) | .exc c S' => .exc c S' | .stuck => .stuck := fun x => by unfold bnd; cases testD tests Sa <;> rfl
    have htst := snd_tests htests I₄
    unfold Snd at htst
    rw [hgo₃] at hgo hne₁
    cases htd : testD tests Sa with
    | stuck => rw [htd] at hne₁; exact absurd rfl hne₁
    | exc c S₅ =>
      rw [htd] at htst hgo
      refine wpAny_mono htst (fun _ _ x => x.elim) fun e s₅ ⟨W₅, l₅, I₅, t₅⟩ => ?_
      obtain ⟨I₆, l₆, _⟩ := back l₅.weak I₅
      refine wp_noteFrame F I₆ t₅.drop fun s'' I'' t'' => hR _ _ ?_
      rw [← hgo]
      exact ⟨_, S₅, l₆, I'', rfl, t''⟩
    | ok b S₅ =>
      rw [htd] at htst hgo hne₁
      refine wpAny_mono htst (fun b' s₅ ⟨W₅, l₅, I₅, hbb⟩ => ?_) fun _ _ x => x.elim
      obtain rfl : b = b' := hbb
      cases b with
      | false =>
        rw [if_neg (by decide)]
        obtain ⟨I₆, l₆, hSt₆, hbs₆, hys₆, hdone₆, hcap₆⟩ := back l₅.weak I₅
        exact ⟨l.length + 1 - (i + 1), by omega, i + 1, _, S₅, done, ys, rfl, hlt, l₆, I₆, hcap₆, hbs₆, hSt₆, hys₆, by omega, hdone₆, hgo⟩
      | true =>
        rw [if_pos rfl]
        have hel := helt W₅ S₅ s₅ I₅
        unfold Snd at hel
        dsimp only at hgo hne₁
        rw [if_pos rfl] at hgo hne₁
        have hgo₅ : ∀ x : AV → Mine.D (List AV), (bnd delt x) S₅ = match delt S₅ with | .ok b S' => (x b S' : Out (List AV)) | .exc c S' => .exc c S' | .stuck => .stuck := fun x => by unfold bnd; cases delt S₅ <;> rfl
        rw [hgo₅] at hgo hne₁
        cases hde : delt S₅ with
        | stuck => rw [hde] at hne₁; exact absurd rfl hne₁
        | exc c S₆ =>
          rw [hde] at hel hgo
          refine wpAny_mono hel (fun _ _ x => x.elim) fun e s₆ ⟨W₆, l₆, I₆, t₆⟩ => ?_
          obtain ⟨I₇, l₇, _⟩ := back (l₅.trans l₆).weak I₆
          refine wp_noteFrame F I₇ t₆.drop fun s'' I'' t'' => hR _ _ ?_
          rw [← hgo]
          exact ⟨_, S₆, l₇, I'', rfl, t''⟩
        | ok av S₆ =>
          rw [hde] at hel hgo
          refine wpAny_mono hel (fun x s₆ ⟨W₆, l₆, I₆, r₆⟩ => ?_) fun _ _ x => x.elim
          obtain ⟨I₇, l₇, hSt₇, hbs₇, hys₇, hdone₇, hcap₇⟩ := back (l₅.trans l₆).weak I₆
          refine wpAny_list_append_plain hys₇ (fun h₈ hys₈ hs₈ => ?_) (by have : lim = sizeLine := rfl; omega)
          have hDn : (W₆.drop (D :: wr)).g D = none ∧ (W₆.drop (D :: wr)).role D = none := hbs₇ D List.mem_cons_self
          have I₈ := I₇.other (a := D) (h' := h₈) (tk := s₆.toks) hDn.1 hDn.2 fun b o hb e => (hs₈.2 b hb).trans e
          refine ⟨l.length + 1 - (i + 1), by omega, i + 1, _, S₆, done ++ [av], ys.push x, rfl, hlt, l₇, I₈, hcap₇, hbs₇, ?_, hys₈, by rw [Array.size_push]; omega, ?_, by rw [← preO_cons]; exact hgo⟩
          · refine Wk.frame (i + 1) s₆.heap h₈ hSt₇ fun b hb o e => (hs₈.2 b fun q => ?_).trans e
            subst q
            by_cases hq : b ∈ wr
            · exact hDw hq
            · obtain ⟨o', z⟩ := hfp b hb hq; rw [hDg] at z; cases z
          · rw [Array.toList_push]; exact hdone₇.append (VReps.cons r₆ .nil)
  · have hieq : i = l.length := by omega
    rw [hieq] at hSt
    refine Wk.done s' _ _ hSt fun h' tk hk => ?_
    dsimp only
    refine hR _ _ ?_
    rw [← hgo, hieq, List.drop_length]
    refine ⟨W₁, S₁, ys, l₁, I₁.heap fun b o tr e => hk b o (fun q => ?_) e, rfl, hys.at fun o e => hk D o hDw e, by omega, by rw [List.append_nil]; exact hdone, hD₁⟩
    rcases tr with ⟨_, z⟩ | ⟨_, z⟩
    · rw [(hwr₁ b q).1] at z; cases z
    · rw [(hwr₁ b q).2] at z; cases z
end
end Mine
end
section
set_option autoImplicit false
set_option linter.unusedVariables false
namespace Mine
open PySem PyProof.Rows

section
variable {C : Cx} {X : Fx} {W : Wd} {S : S} {s : Shared} {n : Nat} {sc : List (Str × NameKind)}

theorem closure_go {env : Env} (names₀ : List (Str × NameKind)) : ∀ (names : List (Str × NameKind)) (acc : List (Str × Addr)), (∀ p ∈ names, p.2 = .free → ∃ c, env.cells.lookup p.1 = some c) →
    ∃ cl, (forIn names acc fun (x : Str × NameKind) (cs : List (Str × Addr)) => (match x with | (name, kind) => if (kind == NameKind.free) = true then do let a ← cellOf env name; Pure.pure (ForInStep.yield ((name, a) :: cs)) else Pure.pure (ForInStep.yield cs) : Sem (ForInStep (List (Str × Addr))))) = Pure.pure cl ∧
      (∀ x c, (x, c) ∈ cl → (x, c) ∈ acc ∨ (env.cells.lookup x = some c ∧ (x, NameKind.free) ∈ names)) ∧ (∀ p ∈ names, p.2 = .free → ∃ c, (p.1, c) ∈ cl) ∧ ∀ q ∈ acc, q ∈ cl
  | [], acc, _ => ⟨acc, rfl, fun _ _ h => .inl h, fun _ h => (nomatch h), fun _ h => h⟩
  | (x, k) :: r, acc, h => by
    by_cases hk : (k == NameKind.free) = true
    · have hk' : k = .free := by simpa using hk
      obtain ⟨c, hc⟩ := h (x, k) List.mem_cons_self hk'
      obtain ⟨cl, h1, h2, h3, h4⟩ := closure_go names₀ r ((x, c) :: acc) fun p hp => h p (List.mem_cons_of_mem _ hp)
      refine ⟨cl, ?_, fun y d hy => ?_, fun p hp hf => ?_, fun q hq => h4 q (List.mem_cons_of_mem _ hq)⟩
      · rw [List.forIn_cons]
        simp only [hk, if_true, cellOf, hc]
        exact h1
      · rcases h2 y d hy with q | ⟨q1, q2⟩
        · rcases List.mem_cons.mp q with z | z
          · cases z; exact .inr ⟨hc, by rw [hk']; exact List.mem_cons_self⟩
          · exact .inl z
        · exact .inr ⟨q1, List.mem_cons_of_mem _ q2⟩
      · rcases List.mem_cons.mp hp with z | z
        · subst z; exact ⟨c, h4 _ List.mem_cons_self⟩
        · exact h3 p z hf
    · obtain ⟨cl, h1, h2, h3, h4⟩ := closure_go names₀ r acc fun p hp => h p (List.mem_cons_of_mem _ hp)
      refine ⟨cl, ?_, fun y d hy => ?_, fun p hp hf => ?_, h4⟩
      · rw [List.forIn_cons]
        simp only [hk]
        exact h1
      · exact (h2 y d hy).imp id fun ⟨q1, q2⟩ => ⟨q1, List.mem_cons_of_mem _ q2⟩
      · rcases List.mem_cons.mp hp with z | z
        · subst z; exact absurd (by simpa using hf) hk
        · exact h3 p z hf
theorem lookup_of_all {α : Type} : ∀ {l : List (Str × α)} {x : Str} {c : α}, (x, c) ∈ l → (∀ d, (x, d) ∈ l → d = c) → l.lookup x = some c
  | [], _, _, h, _ => nomatch h
  | (y, d) :: r, x, c, h, hd => by
    rw [List.lookup_cons]
    cases hq : x == y with
    | true =>
      have : x = y := by simpa using hq
      subst this
      rw [hd d List.mem_cons_self]
    | false =>
      refine lookup_of_all ?_ fun e he => hd e (List.mem_cons_of_mem _ he)
      rcases List.mem_cons.mp h with z | z
      · cases z; simp at hq
      · exact z
theorem closure_spec {scope : Scope} {env : Env} (h : ∀ p ∈ scope.names, p.2 = .free → ∃ c, env.cells.lookup p.1 = some c) :
    ∃ cl, closureFor scope env = Pure.pure cl ∧ (∀ x c, cl.lookup x = some c → env.cells.lookup x = some c ∧ (x, NameKind.free) ∈ scope.names) ∧ ∀ x, (x, NameKind.free) ∈ scope.names → ∃ c, cl.lookup x = some c := by
  obtain ⟨cl, h1, h2, h3, _⟩ := closure_go scope.names scope.names [] h
  refine ⟨cl, ?_, fun x c hx => ?_, fun x hx => ?_⟩
  · exact congrArg (fun m : Sem (List (Str × Addr)) => m >>= fun cs => Pure.pure cs) h1
  · rcases h2 x c (mem_of_lookup hx) with q | q
    · cases q
    · exact q
  · obtain ⟨c, hc⟩ := h3 _ hx rfl
    obtain ⟨c', hc'⟩ := h _ hx rfl
    refine ⟨c, lookup_of_all hc fun d hd => ?_⟩
    have e1 := h2 x d hd
    have e2 := h2 x c hc
    rcases e1 with z | ⟨z, _⟩
    · cases z
    · rcases e2 with y | ⟨y, _⟩
      · cases y
      · rw [z] at y; cases y; rfl

theorem relabel_free {env : Env} : ∀ {names : List (Str × NameKind)} {x : Str}, names.lookup x = some .free →
    ((names.map fun (n, k) => if (k == NameKind.free && env.scope.kind == .function && env.kindOf n == some .cell) then (n, NameKind.cell) else (n, k)).lookup x = some .cell ∨ (names.map fun (n, k) => if (k == NameKind.free && env.scope.kind == .function && env.kindOf n == some .cell) then (n, NameKind.cell) else (n, k)).lookup x = some .free)
  | [], _, h => by simp at h
  | (m, k) :: r, x, h => by
    have ih := @relabel_free env r x
    rw [List.map_cons]
    cases hx : x == m with
    | true =>
      simp only [List.lookup_cons, hx] at h
      cases h
      dsimp only
      split <;> simp [List.lookup_cons, hx]
    | false =>
      simp only [List.lookup_cons, hx] at h
      dsimp only
      split <;> simp only [List.lookup_cons, hx] <;> exact ih h
theorem relabel_glob {env : Env} : ∀ {names : List (Str × NameKind)} {x : Str}, names.lookup x = some .globalImplicit →
    (names.map fun (n, k) => if (k == NameKind.free && env.scope.kind == .function && env.kindOf n == some .cell) then (n, NameKind.cell) else (n, k)).lookup x = some .globalImplicit
  | [], _, h => by simp at h
  | (m, k) :: r, x, h => by
    have ih := @relabel_glob env r x
    rw [List.map_cons]
    cases hx : x == m with
    | true =>
      simp only [List.lookup_cons, hx] at h
      cases h
      simp [List.lookup_cons, hx]
    | false =>
      simp only [List.lookup_cons, hx] at h
      dsimp only
      split <;> simp only [List.lookup_cons, hx] <;> exact ih h

theorem scOk_mem {sc' : List (Str × NameKind)} (h : scOk sc sc' = true) : (∀ p ∈ sc', p.2 ≠ .cell) ∧ (∀ p ∈ sc', p.2 = .local → sc'.lookup p.1 = some .local) ∧ (∀ p ∈ sc', p.2 = .free → (sc.lookup p.1 = some .cell ∨ sc.lookup p.1 = some .free) ∧ sc'.lookup p.1 = some .free) := by
  have key := fun p hp => List.all_eq_true.mp h p hp
  refine ⟨fun p hp q => ?_, fun p hp q => ?_, fun p hp q => ?_⟩
  · have := key p hp; rw [q] at this; cases this
  · have := key p hp; rw [q] at this; simpa using this
  · have := key p hp; rw [q] at this; simpa [or_and_right] using this

/-- the frame of a comprehension within another -/
noncomputable def Fx.comp (X : Fx) (scope : Scope) (cl : List (Str × Addr)) (D : Addr) : Fx := ⟨X.A, compEnvC scope cl D X.env, X.frs, false⟩

theorem FxOk.comp (F : FxOk C n X sc) {scope : Scope} {cl : List (Str × Addr)} {D : Addr} (hk : scope.kind = .function) (hok : scOk sc scope.names = true) (hcl : ∀ x, (x, NameKind.free) ∈ scope.names → ∃ c, cl.lookup x = some c) : FxOk C n (X.comp scope cl D) scope.names where
  hd := F.hd
  frames := F.frames
  kind := hk
  loc := fun x h => lookup_relabel_local h
  cel := fun x h => by
    obtain ⟨h1, h2, h3⟩ := scOk_mem hok
    rcases h with h | h
    · exact absurd rfl (h1 _ (mem_of_lookup h))
    · exact ⟨relabel_free h, hcl x (mem_of_lookup h)⟩
  glob := fun x h => relabel_glob h
  fcell := fun h => (nomatch h)
  room := F.room
  globals := F.globals
  builtins := F.builtins
  frm := F.frm

/-- the world within -/
noncomputable def Wd.comp (W : Wd) (h : Heap) (D : Addr) (kindOf : Str → Option NameKind) : Wd :=
  { W with role := fun b => if b = D then some .loc else suspR h b (W.role b), val := fun x => if kindOf x = some .local then none else W.val x }

theorem Inv.comp (I : Inv C X W S s) (F : FxOk C n X sc) {scope : Scope} {cl : List (Str × Addr)} {D : Addr} {o : Obj} (hok : scOk sc scope.names = true) (hcl : ∀ x c, cl.lookup x = some c → X.env.cells.lookup x = some c ∧ (x, NameKind.free) ∈ scope.names)
    (hD : s.heap.Ns D fun _ => none) (hDg : W.g D = none) (hDr : W.role D = none) :
    Inv C (X.comp scope cl D) (W.comp s.heap D (X.comp scope cl D).env.kindOf) ⟨[], S.st⟩ s ∧ (W.susp s.heap).le false (W.comp s.heap D (X.comp scope cl D).env.kindOf) := by
  have IC := I.susp
  have hold : ∀ {b : Addr} {r : Role}, (W.susp s.heap).role b = some r → (W.comp s.heap D (X.comp scope cl D).env.kindOf).role b = some r := fun {b r} e => by
    show (if b = D then some Role.loc else suspR s.heap b (W.role b)) = _
    rw [if_neg (fun q => by subst q; have e' : suspR s.heap b (W.role b) = some r := e; rw [hDr] at e'; cases e')]
    exact e
  have hinv : ∀ {b : Addr} {r : Role}, (W.comp s.heap D (X.comp scope cl D).env.kindOf).role b = some r → (b = D ∧ r = .loc) ∨ (W.susp s.heap).role b = some r := fun {b r} e => by
    have e' : (if b = D then some Role.loc else suspR s.heap b (W.role b)) = some r := e
    split at e'
    · rename_i q; cases e'; exact .inl ⟨q, rfl⟩
    · exact .inr e'
  refine ⟨?_, fun _ _ q => q, ⟨[], (List.append_nil _).symm⟩, fun b o e => hold e, fun b o e => hold e, fun q => (nomatch q)⟩
  exact {
    stat := I.stat
    sh := I.sh
    keeps := I.keeps
    apart := fun b r e => by
      rcases hinv e with ⟨rfl, rfl⟩ | h
      · obtain ⟨o, es, ep, q1, q2, _⟩ := hD
        exact ⟨hDg, o, q1, fun _ vs z => by rw [q2] at z; cases z⟩
      · exact IC.apart b r h
    kept := fun b o e => by
      rcases hinv e with ⟨_, z⟩ | h
      · cases z
      · exact IC.kept b o h
    held := fun b o e => by
      rcases hinv e with ⟨_, z⟩ | h
      · cases z
      · exact IC.held b o h
    frs := fun e he => by
      obtain ⟨h1, L, o, h2, h3⟩ := IC.frs e he
      exact ⟨h1, L, h2, .inr ⟨o, hold h3⟩⟩
    rloc := if_pos rfl
    ns := ⟨_, hD, fun x hx => by show none = (if (X.comp scope cl D).env.kindOf x = some .local then none else W.val x); rw [if_pos hx]⟩
    cells := fun x c e => by
      obtain ⟨h1, h2⟩ := hcl x c e
      obtain ⟨q1, q2, q3⟩ := I.cells x c h1
      obtain ⟨_, _, hfr⟩ := scOk_mem hok
      obtain ⟨hsc, _⟩ := hfr _ h2 rfl
      refine ⟨fun z => (nomatch z), fun _ => ?_, fun hk => ?_⟩
      · cases hx : X.fn with
        | true =>
          obtain ⟨r', z1, z2⟩ := susp_role I (q1 hx)
          obtain ⟨_, o, ho, _⟩ := I.apart c _ (q1 hx)
          exact ⟨o, hold (by show suspR _ _ (W.role c) = _; rw [q1 hx]; show (s.heap.get? c).map Role.held = _; rw [ho]; rfl)⟩
        | false =>
          obtain ⟨o, z⟩ := q2 hx
          exact ⟨o, hold (susp_same z (fun z => (nomatch z)) (fun _ z => (nomatch z)) (fun _ z => (nomatch z)))⟩
      · show s.heap.IsCell c (if (X.comp scope cl D).env.kindOf x = some .local then none else W.val x)
        rw [if_neg (fun z => by rw [z] at hk; rcases hk with q | q <;> cases q)]
        exact q3 (F.cel x hsc).1
    vars := fun x lv e => by simp [getA] at e
    lab := I.lab
    objs := fun m o e => by
      obtain ⟨a, h1, h2⟩ := IC.objs m o e
      exact ⟨a, h1, h2.grow (W' := W.comp s.heap D (X.comp scope cl D).env.kindOf) (fun _ _ q => q) ⟨[], (List.append_nil _).symm⟩ fun a r q _ => hold q⟩ }

theorem Inv.letgoN : ∀ (xs : List Str) (W : Wd) (S : Mine.S), Inv C X W S s → ∃ W', W.le true W' ∧ Inv C X W' { S with loc := letGoN xs S.loc } s
  | [], W, S, I => ⟨W, .refl, I⟩
  | x :: r, W, S, I => by
    cases hx : getA x S.loc with
    | none =>
      obtain ⟨W', l, I'⟩ := Inv.letgoN r W S I
      exact ⟨W', l, by unfold letGoN; rw [hx]; exact I'⟩
    | some lv =>
      cases lv with
      | val a =>
        obtain ⟨W', l, I'⟩ := Inv.letgoN r W S I
        exact ⟨W', l, by unfold letGoN; rw [hx]; exact I'⟩
      | own c =>
        obtain ⟨W₁, v, l₁, _, I₁, _⟩ := I.letgo hx
        obtain ⟨W', l, I'⟩ := Inv.letgoN r W₁ _ I₁
        exact ⟨W', l₁.trans l, by unfold letGoN; rw [hx]; exact I'⟩
theorem letGoN_get : ∀ (xs : List Str) (l : Loc) (x : Str) (v : AV), (getA x l = some (.val v) → getA x (letGoN xs l) = some (.val v)) ∧ (getA x l = some (.own v) → x ∈ xs → getA x (letGoN xs l) = some (.val v))
  | [], l, x, v => ⟨fun h => h, fun _ h => (nomatch h)⟩
  | y :: r, l, x, v => by
    unfold letGoN
    have step : ∀ {l'}, (getA x l = some (.val v) → getA x l' = some (.val v)) → (getA x l = some (.own v) → getA x l' = some (.own v) ∨ getA x l' = some (.val v)) → (getA x l = some (.own v) → x = y → getA x l' = some (.val v)) →
        (getA x l = some (.val v) → getA x (letGoN r l') = some (.val v)) ∧ (getA x l = some (.own v) → x ∈ y :: r → getA x (letGoN r l') = some (.val v)) := fun {l'} h1 h2 h3 => by
      refine ⟨fun h => (letGoN_get r l' x v).1 (h1 h), fun h hm => ?_⟩
      by_cases hxy : x = y
      · exact (letGoN_get r l' x v).1 (h3 h hxy)
      · rcases h2 h with q | q
        · exact (letGoN_get r l' x v).2 q ((List.mem_cons.mp hm).resolve_left hxy)
        · exact (letGoN_get r l' x v).1 q
    cases hy : getA y l with
    | none => exact step (fun h => h) (fun h => .inl h) fun h q => by subst q; rw [h] at hy; cases hy
    | some lv =>
      cases lv with
      | val a => exact step (fun h => h) (fun h => .inl h) fun h q => by subst q; rw [h] at hy; cases hy
      | own c =>
        by_cases hxy : x = y
        · subst hxy
          refine step (fun h => by rw [h] at hy; cases hy) (fun h => ?_) fun h _ => ?_
          · rw [h] at hy; cases hy; exact .inr getA_setA
          · rw [h] at hy; cases hy; exact getA_setA
        · refine step (fun h => by rw [show getA x (setA y (LV.val c) l) = getA x l from getA_setA_ne hxy]; exact h) (fun h => .inl (by rw [show getA x (setA y (LV.val c) l) = getA x l from getA_setA_ne hxy]; exact h)) fun _ q => absurd q hxy
theorem capOf_get : ∀ (xs : List Str) (l : Loc) (x : Str) (lv : LV), getA x (capOf xs l) = some lv → x ∈ xs ∧ ∃ v, lv = .val v ∧ (getA x l = some (.val v) ∨ getA x l = some (.own v))
  | [], _, _, _, h => by simp [capOf, getA] at h
  | y :: r, l, x, lv, h => by
    have ih := capOf_get r l x lv
    have hc : capOf (y :: r) l = (match getA y l with | some (.val v) => (y, LV.val v) :: capOf r l | some (.own v) => (y, LV.val v) :: capOf r l | none => capOf r l) := by
      unfold capOf
      rw [List.filterMap_cons]
      cases getA y l with
      | none => rfl
      | some q => cases q <;> rfl
    rw [hc] at h
    cases hy : getA y l with
    | none => rw [hy] at h; obtain ⟨q1, q2⟩ := ih h; exact ⟨List.mem_cons_of_mem _ q1, q2⟩
    | some q =>
      rw [hy] at h
      have go : ∀ v, (q = .val v ∨ q = .own v) → getA x ((y, LV.val v) :: capOf r l) = some lv → x ∈ y :: r ∧ ∃ v, lv = .val v ∧ (getA x l = some (.val v) ∨ getA x l = some (.own v)) := fun v hq h => by
        unfold getA at h
        split at h
        · rename_i e
          cases h
          subst e
          exact ⟨List.mem_cons_self, v, rfl, hq.imp (fun z => by rw [hy, z]) fun z => by rw [hy, z]⟩
        · obtain ⟨q1, q2⟩ := ih h; exact ⟨List.mem_cons_of_mem _ q1, q2⟩
      cases q with
      | val v => exact go v (.inl rfl) h
      | own v => exact go v (.inr rfl) h
end
end Mine
end
section
set_option autoImplicit false
set_option linter.unusedVariables false
namespace Mine
open PySem PyProof.Rows

section
variable {C : Cx} {X : Fx} {W : Wd} {S : S} {s : Shared} {n : Nat} {sc : List (Str × NameKind)}

theorem InvC.heap {frs : List Env} {W : Wd} {st : St} {s : Shared} (I : InvC C frs W st s) {h' : Heap} {tk : Nat} (k : W.sim s.heap h') : InvC C frs W st { s with heap := h', toks := tk } where
  stat := I.stat
  sh := by obtain ⟨h, t, e⟩ := I.sh; exact ⟨h', tk, by rw [e]⟩
  keeps := fun b o e => k b o (.inl ⟨o, e⟩) (I.keeps b o e)
  apart := fun b r e => ⟨(I.apart b r e).1, let ⟨o, h1, h2⟩ := (I.apart b r e).2; ⟨o, k b o (.inr ⟨r, e⟩) h1, h2⟩⟩
  kept := fun b o e => let ⟨sl, h1⟩ := I.kept b o e; ⟨sl, k b _ (.inr ⟨_, e⟩) h1⟩
  held := fun b o e => k b _ (.inr ⟨_, e⟩) (I.held b o e)
  frs := I.frs
  nof := I.nof
  lab := I.lab
  objs := fun n o e => let ⟨a, h1, h2⟩ := I.objs n o e; ⟨a, h1, h2.sim k⟩

theorem IsTraced.at {W : Wd} {h h' : Heap} {c : Str} {v : Value} (x : IsTraced C W h c v) (k : ∀ b o, W.role b = none → h.get? b = some o → h'.get? b = some o) : IsTraced C W h' c v := by
  obtain ⟨e, a, oe, vs, T, oT, ts, fl, h1, h2, h3, h4, h5, h6, h7, h8, h9, h10, h11, h12, r⟩ := x
  exact ⟨e, a, oe, vs, T, oT, ts, fl, h1, h2, h3, h4, k e _ h4 h5, h6, h7, h8, h9, h10, h11, k T _ h11 h12, r⟩

theorem Inv.freeze (I : Inv C X W S s) {l : List AV} {v : Value} (r : RFr C W s.heap (.lst l) v) : ∃ W', W.le true W' ∧ Inv C X W' S s ∧ VRep C W'.g W'.labs (.lst l) v := by
  obtain ⟨ad, rfl, hg, hr, vs, ⟨k, h1⟩, h2, h3⟩ := r
  refine ⟨_, .add hg, I.add h1 hg hr, ?_⟩
  simp only [VRep]
  exact ⟨ad, vs, rfl, ⟨k, Gh.put_self⟩, h2, h3.mono (Gh.put_le hg) ⟨[], (List.append_nil _).symm⟩⟩

theorem tgtLoc_spec {sc' : List (Str × NameKind)} {t : Expr} {X' : Fx} (h : tgtLoc sc' t = true) : (∀ x p, (t = .Name x p ∨ ∃ ts k q, t = .Tuple ts k q ∧ Expr.Name x p ∈ ts) → StOk X' sc' x) ∧ ((∃ x p, t = .Name x p) ∨ ∃ ts k q, t = .Tuple ts k q) := by
  unfold tgtLoc at h
  cases t <;> first | (cases h; done) | skip
  · rename_i x p
    have h' := (Bool.and_eq_true_iff.mp h).1
    refine ⟨fun y q hq => ?_, .inl ⟨x, p, rfl⟩⟩
    rcases hq with hq | ⟨_, _, _, hq, _⟩
    · cases hq; exact .inl (by simpa using h')
    · cases hq
  · rename_i ts k p
    refine ⟨fun y q hq => ?_, .inr ⟨ts, k, p, rfl⟩⟩
    rcases hq with hq | ⟨_, _, _, hq, hm⟩
    · cases hq
    · cases hq
      have h1 := List.all_eq_true.mp h _ hm
      have h2 : ((sc'.lookup y == some .local) && okNm y) = true := h1
      exact .inl (by simpa using (Bool.and_eq_true_iff.mp h2).1)

/-- what a comprehension's denotation is -/
noncomputable abbrev dCompL (sc' : List (Str × NameKind)) (t : Expr) (delt : D AV) (tests : List (D AV)) (dit : D AV) : D AV :=
  bnd dit fun its => match its with
    | .lst l => if l.length ≤ sizeLine then bnd (dComp sc' t delt tests l) fun vs => Mine.opt (mkLst vs) else stk
    | _ => stk

theorem sim_dict {W : Wd} {D : Addr} {h h' : Heap} (hg : W.g D = none) (hr : W.role D = none) (hs : Heap.SameBut D h h') : W.sim h h' := fun b o tr e => (hs.2 b fun q => by
  subst q
  rcases tr with ⟨o', z⟩ | ⟨r, z⟩
  · rw [hg] at z; cases z
  · rw [hr] at z; cases z).trans e
theorem RFr.sameBut {W : Wd} {D ad : Addr} {h h' : Heap} {a : AV} (r : RFr C W h a (.ref ad)) (hs : Heap.SameBut D h h') (hne : ad ≠ D) : RFr C W h' a (.ref ad) := by
  obtain ⟨x, e, h1, h2, h3⟩ := r
  cases e
  exact ⟨ad, rfl, h1, h2, h3.sim fun o q => (hs.2 _ hne).trans q⟩

theorem comp_main {elt t iter : Expr} {ifs : List Expr} {scope : Scope} {p : Pos} {delt : D AV} {tests : List (D AV)} {cl : List (Str × Addr)} {use : Option (Value → Sem Unit)} {l : List AV} {S' : Mine.S} (hk : scope.kind = .function) (hok : scOk sc scope.names = true) (ht : tgtLoc scope.names t = true)
    (he : SndE C n scope.names elt delt) (hts : ∀ (X : Fx), FxOk C n X scope.names → TrT C X ifs tests)
    (F : FxOk C n X sc) (hcl : ∀ x c, cl.lookup x = some c → X.env.cells.lookup x = some c ∧ (x, NameKind.free) ∈ scope.names) (hclx : ∀ x, (x, NameKind.free) ∈ scope.names → ∃ c, cl.lookup x = some c) (hlen : l.length ≤ sizeLine)
    (Q : Value → Shared → Prop) (E : Value → Shared → Prop) (W₁ : Wd) (v : Value) (s₁ : Shared) (I₁ : Inv C X W₁ S' s₁) (hRI : RIv C X W₁ s₁.heap (.lst l) v) (hne : dComp scope.names t delt tests l S' ≠ .stuck)
    (hQ : ∀ W' ad D vs S'' s' fl, dComp scope.names t delt tests l S' = .ok vs S'' → W₁.le true W' → Inv C X W' S'' s' → RFr C W' s'.heap (.lst vs) (.ref ad) → W'.g D = none → W'.role D = none → ad ≠ D → (∃ m, s'.heap.Ns D m) → compPost C.M X.A E use Q (.ref ad) D (.ok fl) s')
    (hE : ∀ W' c S'' e s', dComp scope.names t delt tests l S' = .exc c S'' → W₁.le true W' → Inv C X W' S'' s' → IsTraced C W' s'.heap c e → E e s') :
    wpAny C.M X.A (pyIter v) (fun it s₂ => wpAny C.M X.A (newList []) (fun acc s₃ =>
      wpAny C.M X.A (newFunctionEnv scope X.env.globals cl [] X.env.qual none .none (some X.env)) (fun cenv s₄ =>
        codeAny C.M X.A (.compStart (.ListComp elt [⟨t, iter, ifs, 0⟩] scope p) 0 it acc { cenv with scope := relabel scope X.env }) (compPost C.M X.A E use Q acc cenv.locals) s₄) E s₃) E s₂) E s₁ := by
  obtain ⟨hcell, hloc, hfree⟩ := scOk_mem hok
  obtain ⟨l', hl', hit⟩ := hRI
  cases hl'
  refine hit S' s₁ I₁ rfl _ _ fun it h₂ tk hsim ⟨wr, hat⟩ => ?_
  have I₂ := I₁.heap (tk := tk) hsim
  -- captured variables let go, the iterator being held
  obtain ⟨Ia, fp, P, St, r1, r2, r3, r4, r5, r6, r7, r8⟩ := hat
  have hexw := r7 0 h₂ r3
  have Ih := I₂.hold (bs := wr) (fun b hb => (r5 b hb).1) fun b hb => (r5 b hb).2
  obtain ⟨W₂', l₂', I₂'⟩ := Ih.letgoN (capNames scope.names)
  have hheld : ∀ b ∈ wr, ∃ o, W₂'.role b = some (.held o) := fun b q => by
    obtain ⟨o, e⟩ := hexw b q
    exact ⟨o, l₂'.held b o (by show (if b ∈ wr then (h₂.get? b).map Role.held else _) = _; rw [if_pos q, e]; rfl)⟩
  have hcw : ∀ x c, X.env.cells.lookup x = some c → c ∉ wr := fun x c e q => by
    obtain ⟨z1, z2, _⟩ := I₁.cells x c e
    cases hx : X.fn with
    | true => have := z1 hx; rw [(r5 c q).2] at this; cases this
    | false => obtain ⟨_, this⟩ := z2 hx; rw [(r5 c q).2] at this; cases this
  have I₃ := I₂'.drop (bs := wr) (fun b q r e => by obtain ⟨o, z⟩ := hheld b q; rw [z] at e; cases e; exact ⟨o, rfl⟩) hcw
  have l₃ : W₁.le true (W₂'.drop wr) := Wd.le.drop (fun b hb => (r5 b hb).2) l₂'
  have hwr₃ : ∀ b ∈ wr, (W₂'.drop wr).g b = none ∧ (W₂'.drop wr).role b = none := fun b q => ⟨by obtain ⟨o, z⟩ := hheld b q; exact (I₂'.apart b _ z).1, if_pos q⟩
  generalize hW : W₂'.drop wr = W₃ at I₃ l₃ hwr₃
  -- the list, the frame
  refine wpAny_newObj_type (wpAny_newFunctionEnv hcell (by intro y hy; simp at hy) (fun h₄ hns₄ hsb₄ => ?_) hk)
  dsimp only at hns₄ hsb₄ ⊢
  generalize hH3 : h₂.push { cls := .type "list", dict := none, data := .seq ([] : List Value).toArray } = H3 at hns₄ hsb₄ ⊢
  have hsz3 : H3.objs.size = h₂.objs.size + 1 := by rw [← hH3, Heap.size_push]
  have hext : ∀ b o, h₂.get? b = some o → h₄.get? b = some o := fun b o e => hsb₄.extBut b o (by rw [hsz3]; exact Nat.ne_of_lt (Nat.lt_succ_of_lt (Heap.lt_size e))) (Heap.get?_push_of_some _ (hH3 ▸ Heap.get?_push_of_some _ e))
  have hDl : h₄.PlainList h₂.objs.size #[] := ⟨_, hsb₄.extBut _ _ (by rw [hsz3]; exact Nat.ne_of_lt (Nat.lt_succ_self _)) (Heap.get?_push_of_some _ (hH3 ▸ Heap.get?_push_size _ rfl))⟩
  have I₄ : Inv C X W₃ { S' with loc := letGoN (capNames scope.names) S'.loc } { s₁ with heap := h₄, toks := tk + ([] : List (Str × Value)).length } := I₃.heap (.of_ext hext)
  have noAt : ∀ {a : Addr}, h₂.objs.size ≤ a → W₃.role a = none ∧ W₃.g a = none := fun {a} ha => I₃.fresh (by
    cases e : h₂.get? a with
    | none => rfl
    | some o => exact absurd (Heap.lt_size e) (Nat.not_lt.mpr ha))
  have hDn := noAt (a := h₂.objs.size) (Nat.le_refl _)
  have hCn := noAt (a := H3.objs.size) (by rw [hsz3]; exact Nat.le_succ _)
  have hwlt : ∀ b ∈ wr, b < h₂.objs.size := fun b hb => by obtain ⟨o, e⟩ := hexw b hb; exact Heap.lt_size e
  obtain ⟨Iin, lin⟩ := I₄.comp F (scope := scope) (cl := cl) (D := H3.objs.size) (o := default) hok hcl hns₄ hCn.2 hCn.1
  have F' := F.comp (cl := cl) (D := H3.objs.size) hk hok hclx
  obtain ⟨hst, htt⟩ := tgtLoc_spec (X' := X.comp scope cl H3.objs.size) ht
  have hroleW : ∀ {b : Addr}, W₃.role b = none → b ≠ H3.objs.size → (W₃.comp h₄ H3.objs.size (X.comp scope cl H3.objs.size).env.kindOf).role b = none := fun {b} e hb => by
    show (if b = H3.objs.size then some Role.loc else suspR h₄ b (W₃.role b)) = none
    rw [if_neg hb, e]; rfl
  have hcap : CapOk C (X.comp scope cl H3.objs.size) (W₃.comp h₄ H3.objs.size (X.comp scope cl H3.objs.size).env.kindOf) (capOf (capNames scope.names) S'.loc) := fun x lv e => by
    obtain ⟨hm, v', rfl, hg⟩ := capOf_get _ _ _ _ e
    have hmf : (x, NameKind.free) ∈ scope.names := by
      obtain ⟨q, hq, rfl⟩ := List.mem_map.mp hm
      obtain ⟨hq1, hq2⟩ := List.mem_filter.mp hq
      have : q.2 = .free := by simpa using hq2
      rw [← this]; exact hq1
    have hlk := (hfree _ hmf rfl).2
    have hkind := relabel_free (env := X.env) hlk
    obtain ⟨c, hc⟩ := hclx x hmf
    refine ⟨⟨c, hc, hkind⟩, ?_⟩
    have hval : getA x (letGoN (capNames scope.names) S'.loc) = some (.val v') := by
      rcases hg with q | q
      · exact (letGoN_get _ _ _ _).1 q
      · exact (letGoN_get _ _ _ _).2 q hm
    obtain ⟨u, hu, hrep⟩ := I₄.vars x _ hval
    refine ⟨u, v', ?_, rfl, hrep⟩
    show (if (X.comp scope cl H3.objs.size).env.kindOf x = some .local then none else W₃.val x) = some u
    rw [if_neg (fun z => by have hkind' : (X.comp scope cl H3.objs.size).env.kindOf x = some .cell ∨ (X.comp scope cl H3.objs.size).env.kindOf x = some .free := hkind; rw [z] at hkind'; rcases hkind' with q | q <;> cases q)]
    exact hu
  have hat' : IterW C (X.comp scope cl H3.objs.size) (W₃.comp h₄ H3.objs.size (X.comp scope cl H3.objs.size).env.kindOf) h₄ l it wr := by
    refine ⟨Ia, fp, P, St, r1, r2, r2.frame 0 h₂ h₄ r3 fun b _ o e => hext b o e, fun i v q1 q2 => ?_, fun b hb => ⟨(hwr₃ b hb).1, hroleW (hwr₃ b hb).2 (by rw [hsz3]; exact Nat.ne_of_lt (Nat.lt_succ_of_lt (hwlt b hb)))⟩, fun b hb hn => ?_, r7, r8⟩
    · obtain ⟨a, z1, z2⟩ := r4 i v q1 q2; exact ⟨a, z1, VRep.mono l₃.g l₃.labs z2⟩
    · obtain ⟨o, z⟩ := r6 b hb hn; exact ⟨o, l₃.g b o z⟩
  have hneC : compGo t delt tests (capOf (capNames scope.names) S'.loc) l S'.st ≠ .stuck := fun q => hne (by unfold dComp; rw [q])
  have loop : codeAny C.M X.A (.compLoop (.ListComp elt [⟨t, iter, ifs, 0⟩] scope p) 0 it (.ref h₂.objs.size) (compEnvC scope cl H3.objs.size X.env)) (compPost C.M X.A E use Q (.ref h₂.objs.size) H3.objs.size) { s₁ with heap := h₄, toks := tk + ([] : List (Str × Value)).length } := by
    refine codeAny_comp (X := X.comp scope cl H3.objs.size) (wr := wr) F' rfl hst htt (fun W S s I => he _ W S s F' I) (hts _ F') Iin hcap hat' hlen hDl hDn.2 (hroleW hDn.1 (by rw [hsz3]; exact Nat.ne_of_lt (Nat.lt_succ_self _))) (fun q => Nat.lt_irrefl _ (hwlt _ q))
      (fun x c e => hcw x c (hcl x c e).1) hneC fun r s' hp => ?_
    have post : ∀ {W' : Wd} {Sx : Mine.S}, (W₃.comp h₄ H3.objs.size (X.comp scope cl H3.objs.size).env.kindOf).le false W' → Inv C (X.comp scope cl H3.objs.size) W' Sx s' →
        (∃ m, s'.heap.Ns H3.objs.size m) ∧ (∀ b, W'.role b = none → b ≠ H3.objs.size) ∧ ∀ h', Heap.SameBut H3.objs.size s'.heap h' → ∃ Wr, W₁.le true Wr ∧ Inv C X Wr ⟨letGoN (capNames scope.names) S'.loc, Sx.st⟩ { s' with heap := h' } ∧ Wr.g = W'.g ∧ Wr.labs = W'.labs ∧ (∀ b, W'.role b = none → Wr.role b = none) ∧ Wr.role H3.objs.size = none := by
      intro W' Sx l' I'
      obtain ⟨IC, lC⟩ := I'.leave (lin.trans l') (fun e he => I₄.susp.frs e he)
      have hrl : W'.role H3.objs.size = some .loc := I'.rloc
      have hneC' : ∀ b, W'.role b = none → b ≠ H3.objs.size := fun b q z => by rw [z, hrl] at q; cases q
      refine ⟨let ⟨m, q, _⟩ := I'.ns; ⟨m, q⟩, hneC', fun h' hs => ?_⟩
      have IC' : InvC C X.frs W'.leave Sx.st { s' with heap := h' } := IC.heap (tk := s'.toks) fun b o tr e => (hs.2 b fun q => by
        subst q
        rcases tr with ⟨o', z⟩ | ⟨r, z⟩
        · have := (I'.apart _ _ hrl).1
          have z' : W'.g H3.objs.size = some o' := z
          rw [this] at z'; cases z'
        · have z' : endR (W'.role H3.objs.size) = some r := z
          rw [hrl] at z'; cases z').trans e
      obtain ⟨Ir, lr⟩ := I₄.res lC IC'
      refine ⟨_, l₃.trans lr, Ir, rfl, rfl, fun b q => res_none I₄ lC (by show endR (W'.role b) = none; rw [q]; rfl), res_none I₄ lC (by show endR (W'.role H3.objs.size) = none; rw [hrl]; rfl)⟩
    cases hcg : compGo t delt tests (capOf (capNames scope.names) S'.loc) l S'.st with
    | stuck => exact absurd hcg hneC
    | ok vs S₂ =>
      have hp' : CmP C (X.comp scope cl H3.objs.size) (W₃.comp h₄ H3.objs.size (X.comp scope cl H3.objs.size).env.kindOf) h₂.objs.size (.ok vs S₂) r s' := hcg ▸ hp
      cases r with
      | error e => exact hp'.elim
      | ok f =>
        cases f <;> first | exact hp'.elim | skip
        obtain ⟨W', Sx, ys, l', I', hst', hys, hysz, hrep, hg, hr⟩ := hp'
        obtain ⟨⟨m, hns⟩, hneC', hback⟩ := post l' I'
        obtain ⟨Wr, lr, Ir, eg, el, hrole, hDr⟩ := hback s'.heap (Heap.SameBut.refl _ _)
        have hDg : Wr.g H3.objs.size = none := by rw [eg]; exact (I'.apart _ _ I'.rloc).1
        exact hQ Wr h₂.objs.size H3.objs.size vs ⟨letGoN (capNames scope.names) S'.loc, S₂.st⟩ _ _ (by unfold dComp; rw [hcg]) lr (hst' ▸ Ir) ⟨_, rfl, by rw [eg]; exact hg, hrole _ hr, ys, hys, hysz, by rw [eg, el]; exact hrep⟩ hDg hDr (hneC' _ hr) ⟨m, hns⟩
    | exc c S₂ =>
      have hp' : CmP C (X.comp scope cl H3.objs.size) (W₃.comp h₄ H3.objs.size (X.comp scope cl H3.objs.size).env.kindOf) h₂.objs.size (.exc c S₂) r s' := hcg ▸ hp
      cases r with
      | ok f => cases f <;> exact hp'.elim
      | error e =>
        obtain ⟨W', Sx, l', I', hst', htr⟩ := hp'
        obtain ⟨⟨m, hns⟩, hneC', hback⟩ := post l' I'
        refine ⟨m, hns, fun h' hs cenv' _ => ?_⟩
        obtain ⟨Wr, lr, Ir, eg, el, hrole, hDr⟩ := hback h' hs
        have htr' := htr.at (h' := h') fun b o q e => (hs.2 b (hneC' b q)).trans e
        have htr₂ : IsTraced C Wr h' c e := by
          obtain ⟨e', a, oe, vs, T, oT, ts, fl, h1, h2, h3, h4, h5, h6, h7, h8, h9, h10, h11, r⟩ := htr'
          exact ⟨e', a, oe, vs, T, oT, ts, fl, h1, h2, by rw [eg]; exact h3, hrole _ h4, h5, h6, h7, h8, h9, by rw [eg]; exact h10, hrole _ h11, r⟩
        obtain ⟨e', a, oe, vs, T, oT, ts, fl, rfl, h2, h3, h4, h5, h6, h7, h8, r⟩ := id htr₂
        unfold PySem.passOn
        refine wpAny_bind (wpAny_field h5 h7 h8 ?_)
        rw [if_neg (show ¬ ((Value.ref T == Value.none) = true) from by simp)]
        refine wpAny_bind (wp_setFlight (X := X) Ir htr₂ fun s'' I'' t'' => ?_)
        exact wpAny_throw (hE Wr c ⟨letGoN (capNames scope.names) S'.loc, S₂.st⟩ _ _ (by unfold dComp; rw [hcg]) lr (hst' ▸ I'') t'')
  subst r1
  exact codeAny_compStart_list loop (r2.self 0 _ _ _ (r2.frame 0 h₂ h₄ r3 fun b _ o e => hext b o e) loop)

theorem snd_comp_fresh {elt t iter : Expr} {ifs : List Expr} {scope : Scope} {p : Pos} {delt dit : D AV} {tests : List (D AV)} (hset : ∀ a b c, iter ≠ .Set a b c) (hk : scope.kind = .function) (hok : scOk sc scope.names = true) (ht : tgtLoc scope.names t = true)
    (hi : SndI C n sc iter dit) (he : SndE C n scope.names elt delt) (hts : ∀ (X : Fx), FxOk C n X scope.names → TrT C X ifs tests)
    (X : Fx) (W : Wd) (S : Mine.S) (s : Shared) (F : FxOk C n X sc) (I : Inv C X W S s) :
    Snd C X true (RFr C) (eval (.ListComp elt [⟨t, iter, ifs, 0⟩] scope p) X.env) (dCompL scope.names t delt tests dit) W S s := by
  obtain ⟨hcell, hloc, hfree⟩ := scOk_mem hok
  obtain ⟨cl, hclos, hcl, hclx⟩ := closure_spec (scope := scope) (env := X.env) fun q hq hf => (F.cel q.1 (hfree q hq hf).1).2
  have h1 := hi X W S s F I
  -- the tree, given what the two first parts do
  have tree : ∀ (Q : Value → Shared → Prop) (E : Value → Shared → Prop),
      wpAny C.M X.A (eval iter X.env) (fun x s₁ => wpAny C.M X.A (pyIter x) (fun it s₂ => wpAny C.M X.A (newList []) (fun acc s₃ =>
        wpAny C.M X.A (newFunctionEnv scope X.env.globals cl [] X.env.qual none .none (some X.env)) (fun cenv s₄ =>
          codeAny C.M X.A (.compStart (.ListComp elt [⟨t, iter, ifs, 0⟩] scope p) 0 it acc { cenv with scope := relabel scope X.env }) (compPost C.M X.A E none Q acc cenv.locals) s₄) E s₃) E s₂) E s₁) E s →
      wpAny C.M X.A (eval (.ListComp elt [⟨t, iter, ifs, 0⟩] scope p) X.env) Q E s := fun Q E h => by
    rw [eval_ListComp]
    exact wpAny_comprehension_free (use := none) rfl (folded_plain hset) hclos hk (fun x hx hl => hloc x hx hl) h
  unfold Snd at h1
  unfold Snd dCompL bnd
  cases hd : dit S with
  | stuck => trivial
  | exc c S' =>
    rw [hd] at h1
    exact tree _ _ (wpAny_mono h1 (fun _ _ x => x.elim) fun _ _ x => x)
  | ok its S' =>
    rw [hd] at h1
    cases its <;> first | trivial | skip
    rename_i l
    dsimp only
    by_cases hlen : l.length ≤ sizeLine
    case neg => rw [if_neg hlen]; trivial
    rw [if_pos hlen]

    cases hdc : dComp scope.names t delt tests l S' with
    | stuck => trivial
    | exc c S'' =>
      exact tree _ _ (wpAny_mono h1 (fun v s₁ ⟨W₁, l₁, I₁, r₁⟩ => comp_main (use := none) hk hok ht he hts F hcl hclx hlen _ _ W₁ v s₁ I₁ r₁ (by rw [hdc]; exact fun z => nomatch z) (fun W' ad D vs S₂ s' fl q => by rw [hdc] at q; cases q)
        fun W' c' S₂ e s' q l' I' t' => by rw [hdc] at q; cases q; exact ⟨W', l₁.trans l', I', t'.weak⟩) fun _ _ x => x.elim)
    | ok vs S'' =>
      dsimp only [Mine.opt]
      cases hm : mkLst vs with
      | none => trivial
      | some b =>
        have hb : b = .lst vs := by unfold mkLst at hm; split at hm <;> cases hm; rfl
        subst hb
        exact tree _ _ (wpAny_mono h1 (fun v s₁ ⟨W₁, l₁, I₁, r₁⟩ => comp_main (use := none) hk hok ht he hts F hcl hclx hlen _ _ W₁ v s₁ I₁ r₁ (by rw [hdc]; exact fun z => nomatch z) (fun W' ad D vs' S₂ s' fl q l' I' r' hDg hDr hne ⟨m, hm⟩ => by rw [hdc] at q; cases q; exact ⟨m, hm, fun h' hs => ⟨W', l₁.trans l', I'.heap (tk := s'.toks) (sim_dict hDg hDr hs), r'.sameBut hs hne⟩⟩)
          fun W' c' S₂ e s' q => by rw [hdc] at q; cases q) fun _ _ x => x.elim)
end
end Mine
end
section
set_option autoImplicit false
set_option linter.unusedVariables false
namespace Mine
open PySem PyProof.Rows

/-- what a built-in's name means -/
noncomputable def biVal : Bi → Value
  | .len => .builtin "len"
  | .abs => .builtin "abs"
  | .sum => .builtin "sum"
  | .max => .builtin "max"
  | .min => .builtin "min"
  | .isinstance => .builtin "isinstance"
  | .list => .type "list"
  | .tuple => .type "tuple"
  | .dict => .type "dict"
  | .int => .type "int"
  | .range => .type "range"
  | .enumerate => .type "enumerate"
  | .zip => .type "zip"
  | .reversed => .type "reversed"
  | .set => .type "set"
structure BiOk (C : Cx) : Prop where
  bi : ∀ id b, biNames.lookup id = some b → C.mg id = none ∧ C.mb id = some (biVal b)
  ty : ∀ id t, typeNames.lookup id = some t → C.mg id = none ∧ C.mb id = some (.type t)

section
variable {C : Cx} {X : Fx} {W : Wd} {S : S} {s : Shared} {n : Nat} {sc : List (Str × NameKind)} {T : Ctx}

theorem bnd_pur_right {α : Type} (d : D α) : (bnd d fun b => pur b) = d := by
  funext s
  unfold bnd pur
  cases d s <;> rfl
theorem wp_builtinName {x : Str} {v : Value} {p : Pos} {Q : Value → Shared → Prop} {E : Value → Shared → Prop} (F : FxOk C n X sc) (I : Inv C X W S s) (hg : isGlob sc x = true) (h1 : C.mg x = none) (h2 : C.mb x = some v) (h : Q v s) :
    wpAny C.M X.A (eval (.Name x p) X.env) Q E s := by
  have hst := I.stat s.heap I.keeps
  rw [eval_Name _ _ _ (okNm_debug (isGlob_ok hg))]
  refine wpAny_bind (wpAny_standAt ?_)
  exact wp_global F hg (Calls.loadGlobal_builtin (by rw [F.globals]; exact hst.ns) h1 (by rw [F.builtins]; exact hst.nb) h2 h)
theorem wp_globalName {x : Str} {v : Value} {p : Pos} {Q : Value → Shared → Prop} {E : Value → Shared → Prop} (F : FxOk C n X sc) (I : Inv C X W S s) (hg : isGlob sc x = true) (h1 : C.mg x = some v) (h : Q v s) :
    wpAny C.M X.A (eval (.Name x p) X.env) Q E s := by
  have hst := I.stat s.heap I.keeps
  rw [eval_Name _ _ _ (okNm_debug (isGlob_ok hg))]
  refine wpAny_bind (wpAny_standAt ?_)
  exact wp_global F hg (Calls.loadGlobal_global (by rw [F.globals]; exact hst.ns) h1 h)

/-- a call of a built-in, its arguments being taken in any way -/
theorem snd_callB {β γ : Type} {RX : Wd → Heap → β → Args → Prop} {R : Wd → Heap → γ → Value → Prop} {f : Value} (hf : ∀ a, f ≠ .ref a) {pos : Pos} {trees : List (Bool × Sem Value)} {first : List Value} {da : D β} {k : β → D γ}
    (ha : Snd C X true RX (evalArgs f true trees []) da W S s) (hpl : ∀ b S', da S = .ok b S' → trees.any (·.1) = false)
    (hk : ∀ W' S' s' b (a : Args), W.le true W' → Inv C X W' S' s' → RX W' s'.heap b a → Snd C X true R (call f (first ++ a.pos) a.kw) (k b) W' S' s') :
    Snd C X true R (callWith pos f first trees []) (bnd da k) W S s := by
  unfold callWith
  refine Snd.bind ha.holding fun b a W' S' s' l I' r hd => ?_
  refine Snd.stand ?_ I'
  simp only [hpl b S' hd, List.any_nil, Bool.or_false]
  have hkeep : keeperOf f = Pure.pure .machine := by cases f <;> first | rfl | exact absurd rfl (hf _)
  rw [hkeep]
  refine Snd.step (wpAny_pure ⟨W', .refl, I', ?_⟩)
  rw [← bnd_pur_right (k b)]
  refine Snd.bind (hk W' S' s' b a l I' r) fun c v W₂ S₂ s₂ l₂ I₂ r₂ _ => ?_
  refine Snd.step (wpAny_holding (wpAny_point ⟨W₂, .refl, I₂, ?_⟩))
  exact Snd.pure I₂ r₂

theorem plain_of : ∀ {es : List Expr} {ds : List (D AV)} {R : Wd → Heap → AV → Value → Prop} {pos : Pos} {S S' : Mine.S} {vs : List AV}, TrE C X R es ds → seqD ds S = .ok vs S' → (backTo pos (starEach es X.env)).any (·.1) = false
  | [], [], _, _, _, _, _, _, _ => rfl
  | [], _ :: _, _, _, _, _, _, h, _ => h.elim
  | _ :: _, [], _, _, _, _, _, h, _ => h.elim
  | e :: es, d :: ds, R, pos, S, S', vs, h, hd => by
    unfold seqD bnd at hd
    by_cases hs : PySem.W.isStarred e = true
    · rw [h.1.2 hs] at hd; cases hd
    · rw [show starEach (e :: es) X.env = (false, eval e X.env) :: starEach es X.env from by cases e <;> first | rfl | exact absurd rfl hs]
      cases h1 : d S with
      | stuck => rw [h1] at hd; cases hd
      | exc c S₁ => rw [h1] at hd; cases hd
      | ok a S₁ =>
        rw [h1] at hd
        dsimp only at hd
        cases h2 : seqD ds S₁ with
        | stuck => rw [h2] at hd; cases hd
        | exc c S₂ => rw [h2] at hd; cases hd
        | ok b S₂ =>
          have := plain_of (pos := pos) h.2 h2
          simpa [backTo] using this

/-- the arguments by value -/
theorem snd_callV {γ : Type} {R : Wd → Heap → γ → Value → Prop} {f : Value} (hf : ∀ a, f ≠ .ref a) {pos : Pos} {es : List Expr} {ds : List (D AV)} {k : List AV → D γ} (h : TrE C X (RV C) es ds) (I : Inv C X W S s)
    (hk : ∀ W' S' s' vs args, W.le true W' → Inv C X W' S' s' → VReps C W'.g W'.labs vs args → Snd C X true R (call f args) (k vs) W' S' s') :
    Snd C X true R (callWith pos f [] (backTo pos (starEach es X.env)) []) (bnd (seqD ds) k) W S s := by
  refine snd_callB hf (snd_evalArgs h I) (fun b S' e => plain_of h e) fun W' S' s' b a l I' r => ?_
  obtain ⟨ap, ak⟩ := a
  obtain ⟨rfl, r⟩ : ak = [] ∧ _ := r
  exact hk W' S' s' b ap l I' r

/-- one argument, in any way -/
theorem snd_args1 {R : Wd → Heap → AV → Value → Prop} {f : Value} {pos : Pos} {e : Expr} {d : D AV} (hs : PySem.W.isStarred e = true → d = Mine.stk) (h : Snd C X true R (eval e X.env) d W S s) :
    Snd C X true (fun W h b a => a.kw = [] ∧ ∃ v, a.pos = [v] ∧ ∃ c, b = [c] ∧ R W h c v) (evalArgs f true (backTo pos (starEach [e] X.env)) []) (seqD [d]) W S s := by
  by_cases hst : PySem.W.isStarred e = true
  · rw [hs hst]; exact Snd.stk
  rw [show starEach [e] X.env = (false, eval e X.env) :: starEach [] X.env from by cases e <;> first | rfl | exact absurd rfl hst]
  unfold seqD
  have key : Snd C X true (fun W h b a => ∃ v, a = [v] ∧ ∃ c, b = [c] ∧ R W h c v) (spliced (backTo pos ((false, eval e X.env) :: starEach [] X.env))) (bnd d fun v => bnd (seqD []) fun vs => pur (v :: vs)) W S s := by
    simp only [backTo, List.map_cons, spliced, starEach, List.map_nil]
    refine Snd.bind h fun a va W₁ S₁ s₁ l₁ I₁ r₁ _ => ?_
    refine Snd.step (wpAny_pure ⟨W₁, .refl, I₁, ?_⟩)
    refine Snd.bind (R := fun W h (b : List AV) (a : List Value) => b = [] ∧ a = [] ∧ W = W₁ ∧ h = s₁.heap) (Snd.pure I₁ ⟨rfl, rfl, rfl, rfl⟩ : Snd C X true _ _ (seqD []) W₁ S₁ s₁).holding fun vs ws W₂ S₂ s₂ l₂ I₂ r₂ _ => ?_
    obtain ⟨rfl, rfl, rfl, r⟩ := r₂
    exact Snd.pure I₂ ⟨va, rfl, a, rfl, r ▸ r₁⟩
  unfold Snd at key ⊢
  cases hd : (bnd d fun v => bnd (seqD []) fun vs => pur (v :: vs)) S with
  | stuck => trivial
  | exc c S' => rw [hd] at key; exact Calls.evalArgs_plain (wpAny_mono key (fun _ _ x => x.elim) fun _ _ x => x)
  | ok b S' => rw [hd] at key; exact Calls.evalArgs_plain (wpAny_mono key (fun vs s' ⟨W', l, I', r⟩ => ⟨W', l, I', rfl, r⟩) fun _ _ x => x)
end
end Mine
end
section
set_option autoImplicit false
set_option linter.unusedVariables false
namespace Mine
open PySem PyProof.Rows

section
variable {C : Cx} {X : Fx} {W : Wd} {S : S} {s : Shared} {n : Nat} {sc : List (Str × NameKind)} {T : Ctx}

theorem sizeLine_lt : (sizeLine : Int) < 2 ^ 63 := by unfold sizeLine; decide
theorem fits {k : Nat} (h : k ≤ sizeLine) : (k : Int) < 2 ^ 63 := Int.lt_of_le_of_lt (Int.ofNat_le.mpr h) sizeLine_lt

theorem wp_len {a : AV} {v : Value} {k : Nat} {E : Value → Shared → Prop} (I : Inv C X W S s) (r : RP C W s.heap a v) (h : lenV a = some k) :
    wpAny C.M X.A (call (.builtin "len") [v]) (Pst C X W S (.int k)) E s := by
  cases a <;> first | (cases h; done) | skip
  · rename_i x
    cases h
    rcases r with r | ⟨_, _, _, _, r⟩
    · simp only [VRep] at r
      obtain ⟨_, h2, t, rfl⟩ := r
      exact PyProof.Rows.len_str (by have := fits h2; omega) ⟨W, .refl, I.toks, ⟨_, rfl⟩⟩
    · exact r.elim
  · rename_i l
    cases h
    obtain ⟨ad, vs, m, rfl, ho, hsz, hv⟩ := r.tup I
    have hl : vs.size = l.length := by simpa using hv.length
    exact len_tuple (items := vs) ⟨_, ho, rfl, m, rfl⟩ (fits hsz) ⟨W, .refl, I.toks, ⟨_, by rw [hl]⟩⟩
  · rename_i l
    cases h
    obtain ⟨ad, vs, rfl, ⟨m, ho⟩, hsz, hv⟩ := r.seq I
    have hl : vs.size = l.length := by simpa using hv.length
    exact len_list (items := vs) ⟨_, ho, rfl, m, rfl⟩ (fits hsz) ⟨W, .refl, I.toks, ⟨_, by rw [hl]⟩⟩
  all_goals
    rcases r with r | ⟨_, _, _, _, r⟩
    · simp only [VRep] at r
    · exact r.elim

theorem wp_list {l : List AV} {a : AV} {v : Value} {E : Value → Shared → Prop} (I : Inv C X W S s) (r : VRep C W.g W.labs a v) (ha : a = .lst l ∨ a = .tup l) (h : l.length ≤ sizeLine) :
    wpAny C.M X.A (call (.type "list") [v]) (Pst C X W S (.lst l)) E s := by
  have key : ∀ (ad : Addr) (vs : Array Value) (m : Nat) (Ty : String), (Ty = "list" ∨ Ty = "tuple") → s.heap.get? ad = some { cls := .type Ty, data := .seq vs m } → vs.size ≤ lim → VReps C W.g W.labs l vs.toList →
      wpAny C.M X.A (call (.type "list") [.ref ad]) (Pst C X W S (.lst l)) E s := fun ad vs m Ty hT ho hsz hv => by
    refine call_list_seq ad hT ho rfl rfl (fun h' c' hk hn => ?_) hsz
    exact I.newLst (tk := s.toks) (vs := vs) hsz hv (.of_ext hk) get?_size hn
  rcases ha with rfl | rfl <;> simp only [VRep] at r
  · obtain ⟨ad, vs, rfl, ⟨m, hg⟩, hsz, hv⟩ := r
    exact key ad vs m "list" (.inl rfl) (I.keeps _ _ hg) hsz hv
  · obtain ⟨ad, vs, rfl, ⟨m, hg⟩, hsz, hv⟩ := r
    exact key ad vs m "tuple" (.inr rfl) (I.keeps _ _ hg) hsz hv

theorem wp_tuple_lst {l : List AV} {v : Value} {E : Value → Shared → Prop} (I : Inv C X W S s) (r : VRep C W.g W.labs (.lst l) v) :
    wpAny C.M X.A (call (.type "tuple") [v]) (Pst C X W S (.tup l)) E s := by
  simp only [VRep] at r
  obtain ⟨ad, vs, rfl, ⟨m, hg⟩, hsz, hv⟩ := r
  refine call_tuple_list (items := vs) ⟨_, I.keeps _ _ hg, rfl, m, rfl⟩ (fun h' hk => ?_) hsz
  refine I.newTup (tk := s.toks) (vs := vs) hsz hv (fun b o _ e => Heap.get?_push_of_some _ (hk b o e)) ?_ (Heap.get?_push_size _ rfl)
  cases e : s.heap.get? h'.objs.size with
  | none => rfl
  | some o => exact absurd (Heap.lt_size (hk _ _ e)) (Nat.lt_irrefl _)
theorem wp_tuple_tup {l : List AV} {v : Value} {E : Value → Shared → Prop} (I : Inv C X W S s) (r : VRep C W.g W.labs (.tup l) v) :
    wpAny C.M X.A (call (.type "tuple") [v]) (Pst C X W S (.tup l)) E s := by
  have r0 := r
  simp only [VRep] at r
  obtain ⟨ad, vs, rfl, ⟨m, hg⟩, hsz, hv⟩ := r
  exact call_tuple_same (items := vs) ⟨_, I.keeps _ _ hg, rfl, m, rfl⟩ ⟨W, .refl, I, r0⟩

theorem wp_biV {b : Bi} {vs : List AV} {args : List Value} {c : AV} {E : Value → Shared → Prop} (I : Inv C X W S s) (r : VReps C W.g W.labs vs args) (h : biV b vs = some c) :
    wpAny C.M X.A (call (biVal b) args) (Pst C X W S c) E s := by
  unfold biV at h
  split at h <;> first | (cases h; done) | skip
  · rename_i l
    simp only [VReps] at r
    obtain ⟨v, _, rfl, r, rfl⟩ := r
    unfold mkLst at h
    split at h <;> cases h
    exact wp_list I r (.inl rfl) (by assumption)
  · rename_i l
    simp only [VReps] at r
    obtain ⟨v, _, rfl, r, rfl⟩ := r
    unfold mkLst at h
    split at h <;> cases h
    exact wp_list I r (.inr rfl) (by assumption)
  · rename_i l
    simp only [VReps] at r
    obtain ⟨v, _, rfl, r, rfl⟩ := r
    unfold mkTup at h
    split at h <;> cases h
    exact wp_tuple_lst I r
  · rename_i l
    simp only [VReps] at r
    obtain ⟨v, _, rfl, r, rfl⟩ := r
    cases h
    exact wp_tuple_tup I r

theorem rangeL_length (a b : Int) : (rangeL a b).length = (b - a).toNat := by simp [rangeL]
theorem rangeL_get {a b : Int} {i : Nat} (h : i < (b - a).toNat) : (rangeL a b)[i]? = some (.int (a + i)) := by
  simp [rangeL, h]
theorem okR_spec {x : Int} (h : okR x = true) : -(2 ^ 62) ≤ x ∧ x < 2 ^ 62 := by
  have : x.natAbs < 1000000000000000000 := by simpa [okR] using h
  omega
theorem owned_rangeiter {I : Addr} {x left step : Int} {ts : List Expr} {k : Nat} {p : Pos} {v : Value} {Q : Unit → Shared → Prop} {E : Value → Shared → Prop} (hit : IsRangeIter s.heap I x left step) (hQ : Q () s) :
    wpAny C.M X.A (letOwnedTupleGo (.Tuple ts k p) (.ref I) v) Q E s := by
  unfold letOwnedTupleGo
  cases v <;> first | exact wpAny_pure hQ | skip
  refine wpAny_bind (wpAny_load hit ?_)
  exact wpAny_pure hQ

theorem RIv.of_range (F : FxOk C n X sc) {a b : Int} {t u v : Tok} {h : Heap} {ad : Addr} (hr : IsRange h ad a b 1 t u v) (ha : okR a = true) (hb : okR b = true) : RIv C X W h (.lst (rangeL a b)) (.ref ad) := by
  refine ⟨_, rfl, fun S s I hh Q E hQ => ?_⟩
  subst hh
  obtain ⟨a1, a2⟩ := okR_spec ha
  obtain ⟨b1, b2⟩ := okR_spec hb
  refine wpAny_pyIter_range hr (small_one a1 a2 b1 b2) (hQ _ _ s.toks .push ?_)
  have hsz : Builtin.Range.rangeSize a b 1 = ((b - a).toNat : Int) := by rw [rangeSize_one]; split <;> omega
  refine ⟨[s.heap.objs.size], s.heap.objs.size, [s.heap.objs.size], _, _, rfl, (rangeL_length a b) ▸ Walks.range F.hd s.heap.objs.size a 1 (b - a).toNat, ?_, ?_, ?_, ?_, ?_, ?_⟩
  · have e : IsRangeIter (s.heap.push { cls := .type "range_iterator", data := .fields #[rawInt a, rawInt (Builtin.Range.rangeSize a b 1), rawInt 1] }) s.heap.objs.size a (Builtin.Range.rangeSize a b 1) 1 := Heap.get?_push_size _ rfl
    rw [hsz] at e ⊢
    show IsRangeIter _ _ _ _ _
    simpa [rangeL_length] using e
  · rintro i v ⟨t, rfl⟩ hlt
    rw [rangeL_length] at hlt
    exact ⟨_, rangeL_get hlt, ⟨t, by simp⟩⟩
  · intro b hb
    rw [List.mem_singleton] at hb; subst hb
    exact (I.fresh get?_size).symm
  · intro b hb hn
    exact absurd hb hn
  · intro i h' hst b hb
    rw [List.mem_singleton] at hb; subst hb
    exact ⟨_, hst⟩
  · intro ts k p v
    exact .inr fun s' Q' E' ⟨j, hj⟩ hq => owned_rangeiter hj hq

noncomputable abbrev PstI (C : Cx) (X : Fx) (W : Wd) (S : Mine.S) (c : AV) : Value → Shared → Prop := fun v s' => ∃ W', W.le true W' ∧ Inv C X W' S s' ∧ RIv C X W' s'.heap c v
theorem wp_itV {b : Bi} {vs : List AV} {args : List Value} {c : AV} {E : Value → Shared → Prop} (F : FxOk C n X sc) (I : Inv C X W S s) (r : VReps C W.g W.labs vs args) (h : itV b vs = some c) :
    wpAny C.M X.A (call (biVal b) args) (PstI C X W S c) E s := by
  unfold itV at h
  split at h <;> first | (cases h; done) | skip
  · rename_i k
    simp only [VReps, VRep] at r
    obtain ⟨v, _, rfl, ⟨t, rfl⟩, rfl⟩ := r
    split at h <;> cases h
    exact call_range_1 ⟨W, .refl, I.heap .push, RIv.of_range F (IsRange.new ..) rfl (by assumption)⟩
  · rename_i a k
    simp only [VReps, VRep] at r
    obtain ⟨v, _, rfl, ⟨t, rfl⟩, v', _, rfl, ⟨t', rfl⟩, rfl⟩ := r
    split at h <;> cases h
    rename_i hc
    obtain ⟨h1, h2⟩ := Bool.and_eq_true_iff.mp hc
    exact call_range_2 ⟨W, .refl, I.heap .push, RIv.of_range F (IsRange.new ..) h1 h2⟩
end
end Mine
end
section
set_option autoImplicit false
set_option linter.unusedVariables false
namespace Mine
open PySem PyProof.Rows

section
variable {C : Cx} {X : Fx} {W : Wd} {S : S} {s : Shared} {n : Nat} {sc : List (Str × NameKind)} {T : Ctx}

/-- one argument in any way, and a name that changes nothing -/
theorem snd_args2 {R : Wd → Heap → AV → Value → Prop} {f ty : Value} {pos : Pos} {e e2 : Expr} {d : D AV} (hs : PySem.W.isStarred e = true → d = Mine.stk) (hs2 : PySem.W.isStarred e2 = false) (h : Snd C X true R (eval e X.env) d W S s)
    (h2 : ∀ (W : Wd) (S : Mine.S) (s : Shared) (Q E : Value → Shared → Prop), Inv C X W S s → Q ty s → wpAny C.M X.A (eval e2 X.env) Q E s) :
    Snd C X true (fun W h b a => a.kw = [] ∧ ∃ v, a.pos = [v, ty] ∧ R W h b v) (evalArgs f true (backTo pos (starEach [e, e2] X.env)) []) d W S s := by
  by_cases hst : PySem.W.isStarred e = true
  · rw [hs hst]; exact Snd.stk
  rw [show starEach [e, e2] X.env = (false, eval e X.env) :: starEach [e2] X.env from by cases e <;> first | rfl | exact absurd rfl hst,
    show starEach [e2] X.env = [(false, eval e2 X.env)] from by cases e2 <;> first | rfl | cases hs2]
  have key : Snd C X true (fun W h b a => ∃ v, a = [v, ty] ∧ R W h b v) (spliced (backTo pos ((false, eval e X.env) :: [(false, eval e2 X.env)]))) d W S s := by
    rw [← bnd_pur_right d]
    simp only [backTo, List.map_cons, spliced, List.map_nil]
    refine Snd.bind h fun a va W₁ S₁ s₁ l₁ I₁ r₁ _ => ?_
    refine Snd.step (wpAny_pure ⟨W₁, .refl, I₁, ?_⟩)
    refine Snd.step (wpAny_holding (wpAny_bind (h2 W₁ S₁ s₁ _ _ I₁ ?_)))
    refine wpAny_bind (wpAny_pure ?_)
    refine wpAny_bind (wpAny_holding (wpAny_pure ?_))
    refine wpAny_pure ⟨W₁, .refl, I₁, ?_⟩
    exact Snd.pure I₁ ⟨va, rfl, r₁⟩
  unfold Snd at key ⊢
  cases hd : d S with
  | stuck => trivial
  | exc c S' => rw [hd] at key; exact Calls.evalArgs_plain (wpAny_mono key (fun _ _ x => x.elim) fun _ _ x => x)
  | ok b S' => rw [hd] at key; exact Calls.evalArgs_plain (wpAny_mono key (fun vs s' ⟨W', l, I', r⟩ => ⟨W', l, I', rfl, r⟩) fun _ _ x => x)

noncomputable def tyNs : List String := ["list", "tuple", "dict", "int", "bool", "str"]
theorem ty_meta : ∀ t ∈ tyNs, typeOf (.type t) = Pure.pure (.type "type") := by
  intro t ht
  simp only [tyNs, List.mem_cons, List.not_mem_nil, or_false] at ht
  rcases ht with rfl | rfl | rfl | rfl | rfl | rfl <;> kernel_rfl
theorem sub_tab : ∀ a ∈ ["bool", "int", "str", "tuple", "list"], ∀ t ∈ tyNs, isSubtype (.type a) (.type t) = Pure.pure (isiT a t) := by
  intro a ha t ht
  simp only [tyNs, List.mem_cons, List.not_mem_nil, or_false] at ht ha
  rcases ha with rfl | rfl | rfl | rfl | rfl <;> rcases ht with rfl | rfl | rfl | rfl | rfl | rfl <;> (rw [isSubtype_type]; kernel_rfl)
theorem typeNames_mem {x : Str} {t : String} (h : typeNames.lookup x = some t) : t ∈ tyNs := by
  unfold typeNames at h
  simp only [List.lookup_cons] at h
  repeat' split at h
  all_goals first | (cases h; done) | (cases h; simp [tyNs])

theorem isiT_false {a t : String} (h : isiT a t = false) : (Value.type a == Value.type t) = false := by
  unfold isiT at h
  have h1 := (Bool.or_eq_false_iff.mp h).1
  have : a ≠ t := by simpa using h1
  simpa using this

theorem wp_isi {a : AV} {v : Value} {an t : String} {E : Value → Shared → Prop} (I : Inv C X W S s) (r : RP C W s.heap a v) (ha : tyNm a = some an) (ht : t ∈ tyNs) :
    wpAny C.M X.A (call (.builtin "isinstance") [v, .type t]) (Pst C X W S (.bool (isiT an t))) E s := by
  have hm := ty_meta t ht
  have fin : ∀ tk, Pst C X W S (.bool (isiT an t)) (.bool (isiT an t)) { s with toks := tk } := fun tk => ⟨W, .refl, I.toks, rfl⟩
  have yes : s.TypeIs v an → isSubtype (.type an) (.type t) = Pure.pure (isiT an t) → isiT an t = true → wpAny C.M X.A (call (.builtin "isinstance") [v, .type t]) (Pst C X W S (.bool (isiT an t))) E s := fun h1 h2 h3 => by
    rw [h3] at h2
    exact call_isinstance_yes h1 hm h2 (by have := fin s.toks; rwa [h3] at this ⊢)
  cases hb : isiT an t with
  | true =>
    rw [hb] at yes
    cases a <;> first | (cases ha; done) | skip
    · cases ha
      rcases r with r | ⟨_, _, _, _, r⟩
      · simp only [VRep] at r; subst r
        exact yes rfl (hb ▸ sub_tab _ (by simp) _ ht) rfl
      · exact r.elim
    · cases ha
      obtain ⟨_, rfl⟩ := r.int
      exact yes rfl (hb ▸ sub_tab _ (by simp) _ ht) rfl
    · cases ha
      rcases r with r | ⟨_, _, _, _, r⟩
      · simp only [VRep] at r; obtain ⟨_, _, _, rfl⟩ := r
        exact yes rfl (hb ▸ sub_tab _ (by simp) _ ht) rfl
      · exact r.elim
    · cases ha
      obtain ⟨ad, vs, m, rfl, ho, hsz, hv⟩ := r.tup I
      exact yes ⟨_, ho, rfl⟩ (hb ▸ sub_tab _ (by simp) _ ht) rfl
    · cases ha
      obtain ⟨ad, vs, rfl, ⟨m, ho⟩, hsz, hv⟩ := r.seq I
      exact yes ⟨_, ho, rfl⟩ (hb ▸ sub_tab _ (by simp) _ ht) rfl
  | false =>
    have fin' : ∀ tk, Pst C X W S (.bool false) (.bool false) { s with toks := tk } := fun tk => ⟨W, .refl, I.toks, rfl⟩
    cases a <;> first | (cases ha; done) | skip
    · cases ha
      rcases r with r | ⟨_, _, _, _, r⟩
      · simp only [VRep] at r; subst r
        exact call_isinstance (isinstance_false_bool (isiT_false hb) hm (hb ▸ sub_tab _ (by simp) _ ht)) (fin' _)
      · exact r.elim
    · cases ha
      obtain ⟨_, rfl⟩ := r.int
      exact call_isinstance (isinstance_false_int (isiT_false hb) hm (hb ▸ sub_tab _ (by simp) _ ht)) (fin' _)
    · cases ha
      rcases r with r | ⟨_, _, _, _, r⟩
      · simp only [VRep] at r; obtain ⟨_, _, _, rfl⟩ := r
        exact call_isinstance (isinstance_false_str (isiT_false hb) hm (hb ▸ sub_tab _ (by simp) _ ht)) (fin' _)
      · exact r.elim
    · cases ha
      obtain ⟨ad, vs, m, rfl, ho, hsz, hv⟩ := r.tup I
      exact call_isinstance (isinstance_false_tuple (isiT_false hb) hm (hb ▸ sub_tab _ (by simp) _ ht)) ⟨⟨_, ho, rfl⟩, fin' _⟩
    · cases ha
      obtain ⟨ad, vs, rfl, ⟨m, ho⟩, hsz, hv⟩ := r.seq I
      exact call_isinstance (isinstance_false_list (isiT_false hb) hm (hb ▸ sub_tab _ (by simp) _ ht)) ⟨⟨_, ho, rfl⟩, fin' _⟩

theorem strsOf_vals {g : Gh} {labs : List Addr} : ∀ {l : List AV} {vs : List Value} {ss : List Str}, VReps C g labs l vs → strsOf l = some ss → ∃ ps : List (Str × Tok), vs = strValues ps ∧ ps.map (·.1) = ss ∧ ∀ x ∈ ss, PyData.strOk x = true
  | [], vs, ss, h, e => by simp only [VReps] at h; cases e; exact ⟨[], h, rfl, fun _ q => nomatch q⟩
  | x :: r, vs, ss, h, e => by
    simp only [VReps] at h
    obtain ⟨v, vs', rfl, h1, h2⟩ := h
    cases x <;> first | (cases e; done) | skip
    rename_i x
    unfold strsOf at e
    cases hr : strsOf r with
    | none => rw [hr] at e; cases e
    | some ss' =>
      rw [hr] at e; cases e
      obtain ⟨ps, rfl, rfl, h3⟩ := strsOf_vals h2 hr
      simp only [VRep] at h1
      obtain ⟨q1, _, t, rfl⟩ := h1
      refine ⟨(x, t) :: ps, rfl, rfl, fun y hy => ?_⟩
      rcases List.mem_cons.mp hy with rfl | hy
      · exact q1
      · exact h3 y hy
theorem catS_len : ∀ ss : List Str, (catS ss).length = (ss.map (·.length)).sum
  | [] => rfl
  | x :: r => by
    show (x ++ catS r).length = _
    rw [List.map_cons, List.sum_cons, ← catS_len r]
    show (x.cps ++ (catS r).cps).size = _
    rw [Array.size_append]; rfl
theorem catS_join : ∀ ss : List Str, Str.join ⟨#[]⟩ ss = catS ss
  | [] => rfl
  | [x] => by show x = x ++ (⟨#[]⟩ : Str); cases x; show (⟨_⟩ : Str) = ⟨_ ++ #[]⟩; rw [Array.append_empty]
  | x :: y :: r => by
    show x ++ ⟨#[]⟩ ++ Str.join ⟨#[]⟩ (y :: r) = x ++ catS (y :: r)
    rw [catS_join (y :: r)]
    cases x; show (⟨_ ++ #[] ++ _⟩ : Str) = ⟨_ ++ _⟩; rw [Array.append_empty]
theorem catS_ok : ∀ ss : List Str, (∀ x ∈ ss, PyData.strOk x = true) → PyData.strOk (catS ss) = true
  | [], _ => by with_unfolding_all rfl
  | x :: r, h => strOk_append (h x List.mem_cons_self) (catS_ok r fun y hy => h y (List.mem_cons_of_mem _ hy))
theorem wp_join {vs : List AV} {args : List Value} {t : Tok} (I : Inv C X W S s) (r : VReps C W.g W.labs vs args) :
    Snd C X true (RV C) (call (.builtin "str.join") (.str ⟨#[]⟩ t :: args)) (dJoin vs) W S s := by
  unfold dJoin
  split
  case h_2 => exact Snd.stk
  rename_i l
  refine Snd.opt fun b hb => ?_
  simp only [VReps, VRep] at r
  obtain ⟨v, _, rfl, ⟨ad, vs, rfl, ⟨m, hg⟩, hsz, hv⟩, rfl⟩ := r
  cases hs : strsOf l with
  | none => rw [hs] at hb; cases hb
  | some ss =>
    rw [hs] at hb
    have hb : mkSt (catS ss) = some b := hb
    unfold mkSt at hb
    split at hb <;> cases hb
    rename_i hlen
    obtain ⟨ps, hps, hss, hok⟩ := strsOf_vals hv hs
    have hvs : vs = (strValues ps).toArray := by rw [← hps]
    refine SC.join (l := ps) (texts := ss) ⟨_, I.keeps _ _ hg, rfl, m, by rw [hvs]⟩ hss ?_ fun t' k => ⟨W, .refl, I.toks, ?_⟩
    · unfold JoinOk
      rw [StrLaws.joinTotal]
      have := catS_len ss
      have hz : (⟨#[]⟩ : Str).length = 0 := rfl
      rw [hz, Nat.mul_zero, Nat.add_zero, ← this]
      unfold Builtin.Str.tooLong
      simpa using hlen
    · show VRep C W.g W.labs (.str (catS ss)) _
      simp only [VRep]
      exact ⟨catS_ok ss hok, hlen, t', by rw [← catS_join, ← StrLaws.glued_eq_join]; rfl⟩
end
end Mine
end
section
set_option autoImplicit false
set_option linter.unusedVariables false
namespace Mine
open PySem PyProof.Rows

section
variable {C : Cx} {X : Fx} {W : Wd} {S : S} {s : Shared} {n : Nat} {sc : List (Str × NameKind)} {T : Ctx}

theorem snd_newList_fresh {l : List AV} {vs : List Value} (I : Inv C X W S s) (h : VReps C W.g W.labs l vs) : Snd C X true (RFr C) (newList vs) (Mine.opt (mkLst l)) W S s := by
  refine Snd.opt fun b hb => ?_
  unfold mkLst at hb
  split at hb
  · rename_i hsz
    cases hb
    have hl := h.length
    have hfr := I.fresh get?_size
    exact wpAny_newObj_type ⟨W, .refl, I.heap (tk := s.toks) .push, s.heap.objs.size, rfl, hfr.2, hfr.1, vs.toArray, ⟨_, Heap.get?_push_size _ rfl⟩, by simpa [hl] using hsz, by simpa using h⟩ (by show vs.toArray.size ≤ sizeLine; simpa [hl] using hsz)
  · cases hb
theorem snd_list_fresh {es : List Expr} {ds : List (D AV)} {p : Pos} (h : TrE C X (RV C) es ds) (I : Inv C X W S s) : Snd C X true (RFr C) (eval (.List es p) X.env) (bnd (seqD ds) fun vs => Mine.opt (mkLst vs)) W S s := by
  rw [arm_eval_List]
  exact Snd.stand (Snd.bind (snd_spliced es ds W S s h I) fun l vs W₁ S₁ s₁ l₁ I₁ r₁ _ => snd_newList_fresh I₁ r₁) I
theorem RFr.cont {h : Heap} {a : AV} {v : Value} (r : RFr C W h a v) : isCont a = true := by
  obtain ⟨ad, _, _, _, hc⟩ := r
  cases a <;> first | exact hc.elim | rfl

theorem sndS_assign_val {x : Str} {p' pos : Pos} {v : Expr} {d : D AV} (hsw : ∀ env : Env, swapsWith v (some (.Name x p')) pos.line env = Pure.pure false) (hst : isSt sc x = true) (h : SndE C n sc v d) :
    SndS C n sc (.Assign [.Name x p'] v pos) (bnd d fun a => bnd (wrLoc x (.val a)) fun _ => pur .next) := fun X W S s F hf I => by
  rw [exec_Assign_Name (hs := hsw X.env)]
  refine Snd.stand ?_ I
  refine Snd.bind (h X W S s F I).weak fun a va W₁ S₁ s₁ l₁ I₁ r₁ _ => ?_
  refine Snd.stand ?_ I₁
  refine Snd.bind (snd_bindName (p := p') F I₁ ((isSt_spec hst).1.imp id fun q => ⟨hf, q⟩) r₁) fun _ _ W₂ S₂ s₂ l₂ I₂ _ _ => ?_
  exact Snd.pure I₂ trivial
theorem sndS_assign_own {x : Str} {p' pos : Pos} {v : Expr} {d : D AV} (X : Fx) (W : Wd) (S : Mine.S) (s : Shared) (F : FxOk C n X sc) (hf : X.fn = true) (I : Inv C X W S s) (hsw : swapsWith v (some (.Name x p')) pos.line X.env = Pure.pure false) (hst : isSt sc x = true)
    (h : Snd C X true (RFr C) (eval v X.env) d W S s) : Snd C X false (RF C) (exec (.Assign [.Name x p'] v pos) X.env) (bnd d fun a => bnd (wrLoc x (lvOf true a)) fun _ => pur .next) W S s := by
  rw [exec_Assign_Name (hs := hsw)]
  refine Snd.stand ?_ I
  refine Snd.bind h.weak fun a va W₁ S₁ s₁ l₁ I₁ r₁ _ => ?_
  refine Snd.stand ?_ I₁
  have hl : lvOf true a = .own a := by unfold lvOf; rw [r₁.cont]; rfl
  rw [hl]
  refine Snd.bind ((snd_storeOwn F I₁ ((isSt_spec hst).1.imp id fun q => ⟨hf, q⟩) r₁).wp fun Q E q => wpAny_bindName q) fun _ _ W₂ S₂ s₂ l₂ I₂ _ _ => ?_
  exact Snd.pure I₂ trivial

theorem swaps_comp {elt : Expr} {gens : List Comprehension} {scope : Scope} {p p' : Pos} {x : Str} {ln : Nat} {env : Env} : ∃ b, swapsWith (.ListComp elt gens scope p) (some (.Name x p')) ln env = Pure.pure b := ⟨_, rfl⟩

theorem sndS_assign_comp {x : Str} {p' pos : Pos} {elt t iter : Expr} {ifs : List Expr} {scope : Scope} {p : Pos} {delt dit : D AV} {tests : List (D AV)} (hst : isSt sc x = true) (hset : ∀ a b c, iter ≠ .Set a b c) (hk : scope.kind = .function) (hok : scOk sc scope.names = true) (ht : tgtLoc scope.names t = true)
    (hi : SndI C n sc iter dit) (he : SndE C n scope.names elt delt) (hts : ∀ (X : Fx), FxOk C n X scope.names → TrT C X ifs tests) :
    SndS C n sc (.Assign [.Name x p'] (.ListComp elt [⟨t, iter, ifs, 0⟩] scope p) pos) (bnd (dCompL scope.names t delt tests dit) fun a => bnd (wrLoc x (lvOf true a)) fun _ => pur .next) := fun X W S s F hf I => by
  obtain ⟨b, hb⟩ := swaps_comp (elt := elt) (gens := [⟨t, iter, ifs, 0⟩]) (scope := scope) (p := p) (p' := p') (x := x) (ln := pos.line) (env := X.env)
  cases b with
  | false => exact sndS_assign_own X W S s F hf I hb hst (snd_comp_fresh hset hk hok ht hi he hts X W S s F I)
  | true =>
    obtain ⟨hcell, hloc, hfree⟩ := scOk_mem hok
    obtain ⟨cl, hclos, hcl, hclx⟩ := closure_spec (scope := scope) (env := X.env) fun q hq hf => (F.cel q.1 (hfree q hq hf).1).2
    have h1 := hi X W S s F I
    have hStO : sc.lookup x = some .local ∨ (X.fn = true ∧ sc.lookup x = some .cell) := (isSt_spec hst).1.imp id fun q => ⟨hf, q⟩
    have tree : ∀ (Q : Flow → Shared → Prop) (E : Value → Shared → Prop),
        wpAny C.M X.A (eval iter X.env) (fun xv s₁ => wpAny C.M X.A (pyIter xv) (fun it s₂ => wpAny C.M X.A (newList []) (fun acc s₃ =>
          wpAny C.M X.A (newFunctionEnv scope X.env.globals cl [] X.env.qual none .none (some X.env)) (fun cenv s₄ =>
            codeAny C.M X.A (.compStart (.ListComp elt [⟨t, iter, ifs, 0⟩] scope p) 0 it acc { cenv with scope := relabel scope X.env }) (compPost C.M X.A E (some (assign (.Name x p') X.env)) (fun _ s' => Q .next s') acc cenv.locals) s₄) E s₃) E s₂) E s₁) E s →
        wpAny C.M X.A (exec (.Assign [.Name x p'] (.ListComp elt [⟨t, iter, ifs, 0⟩] scope p) pos) X.env) Q E s := fun Q E h => by
      rw [exec_Assign_Name_used (hs := hb)]
      refine wpAny_bind (wpAny_standAt (wpAny_bind ?_))
      show wpAny _ X.A (do let _ ← comprehension (.ListComp elt [⟨t, iter, ifs, 0⟩] scope p) scope X.env _ (newList []) false (eval iter X.env) (some (assign (.Name x p') X.env))) _ _ s
      exact wpAny_bind (wpAny_mono (wpAny_comprehension_free (Q := fun _ s' => Q .next s') rfl (folded_plain hset) hclos hk (fun x hx hl => hloc x hx hl) h) (fun _ s' hq => wpAny_pure (wpAny_pure hq)) fun _ _ e => e)
    unfold Snd at h1
    unfold Snd dCompL bnd
    cases hd : dit S with
    | stuck => trivial
    | exc c S' =>
      rw [hd] at h1
      exact tree _ _ (wpAny_mono h1 (fun _ _ x => x.elim) fun _ _ ⟨W', l', I', r'⟩ => ⟨W', l'.weak, I', r'⟩)
    | ok its S' =>
      rw [hd] at h1
      cases its <;> first | trivial | skip
      rename_i l
      dsimp only
      by_cases hlen : l.length ≤ sizeLine
      case neg => rw [if_neg hlen]; trivial
      rw [if_pos hlen]
      cases hdc : dComp scope.names t delt tests l S' with
      | stuck => trivial
      | exc c S'' =>
        exact tree _ _ (wpAny_mono h1 (fun v s₁ ⟨W₁, l₁, I₁, r₁⟩ => comp_main (use := some (assign (.Name x p') X.env)) hk hok ht he hts F hcl hclx hlen _ _ W₁ v s₁ I₁ r₁ (by rw [hdc]; exact fun z => nomatch z) (fun W' ad D vs S₂ s' fl q => by rw [hdc] at q; cases q)
          fun W' c' S₂ e s' q l' I' t' => by rw [hdc] at q; cases q; exact ⟨W', (l₁.trans l').weak, I', t'.weak⟩) fun _ _ x => x.elim)
      | ok vs S'' =>
        dsimp only [Mine.opt]
        cases hm : mkLst vs with
        | none => trivial
        | some b =>
          have hb : b = .lst vs := by unfold mkLst at hm; split at hm <;> cases hm; rfl
          subst hb
          refine tree _ _ (wpAny_mono h1 (fun v s₁ ⟨W₁, l₁, I₁, r₁⟩ => comp_main (use := some (assign (.Name x p') X.env)) hk hok ht he hts F hcl hclx hlen _ _ W₁ v s₁ I₁ r₁ (by rw [hdc]; exact fun z => nomatch z) (fun W' ad D vs' S₂ s' fl q l' I' r' hDg hDr hne ⟨m, hm⟩ => ?_)
            fun W' c' S₂ e s' q => by rw [hdc] at q; cases q) fun _ _ x => x.elim)
          rw [hdc] at q; cases q
          show wpAny _ _ (assign (.Name x p') X.env (.ref ad)) _ _ s'
          refine wpAny_assign_Name ?_
          have hbs : ∀ b ∈ [D], W'.g b = none := fun b hb => by rw [List.mem_singleton] at hb; subst hb; exact hDg
          have hbr : ∀ b ∈ [D], W'.role b = none := fun b hb => by rw [List.mem_singleton] at hb; subst hb; exact hDr
          have Ih := I'.hold hbs hbr
          have hoD : ∃ o, s'.heap.get? D = some o := by obtain ⟨o, _, _, q, _⟩ := hm; exact ⟨o, q⟩
          obtain ⟨oD, hoD⟩ := hoD
          have hrole : (W'.hold s'.heap [D]).role D = some (.held oD) := by show (if D ∈ [D] then (s'.heap.get? D).map Role.held else _) = _; rw [if_pos List.mem_cons_self, hoD]; rfl
          have rh : RFr C (W'.hold s'.heap [D]) s'.heap (.lst vs) (.ref ad) := by
            obtain ⟨ad', e, q1, q2, q3⟩ := r'
            cases e
            exact ⟨ad, rfl, q1, by show (if ad ∈ [D] then _ else W'.role ad) = none; rw [if_neg (fun z => hne (List.mem_singleton.mp z))]; exact q2, q3.grow (fun _ _ q => q) ⟨[], (List.append_nil _).symm⟩⟩
          have hs := snd_storeOwn F Ih hStO rh
          unfold Snd at hs
          refine wpAny_mono hs (fun _ s'' ⟨W₂, l₂, I₂, _⟩ => ?_) fun _ _ x => x.elim
          have hr₂ := l₂.held D oD hrole
          have hg₂ := (I₂.apart D _ hr₂).1
          refine ⟨m, hm.at' fun o e => ?_, fun h' hsb => ?_⟩
          · rw [hoD] at e; cases e; exact I₂.held D _ hr₂
          · have Id := I₂.drop (bs := [D]) (fun b hb r e => by rw [List.mem_singleton] at hb; subst hb; rw [hr₂] at e; cases e; exact ⟨oD, rfl⟩) (fun y c e hc => by
              rw [List.mem_singleton] at hc; subst hc
              obtain ⟨z1, z2, _⟩ := I'.cells y _ e
              have := z1 hf; rw [hDr] at this; cases this)
            have ld : W'.le false (W₂.drop [D]) := Wd.le.drop hbr l₂
            have hl : lvOf true (AV.lst vs) = .own (.lst vs) := rfl
            show ∃ W', _ ∧ _ ∧ _
            exact ⟨W₂.drop [D], (l₁.trans l').weak.trans ld, Id.heap (tk := s''.toks) (sim_dict hg₂ (if_pos List.mem_cons_self) hsb), trivial⟩
end
end Mine
end
section
set_option autoImplicit false
set_option linter.unusedVariables false
namespace Mine
open PySem PyProof.Rows

structure TOk (C : Cx) (n : Nat) (T : Ctx) : Prop where
  cx : CxOk C
  bi : BiOk C
  ctx : CtxOk C T
  fn : ∀ f, T.fn f = (C.P.find ⟨#[]⟩ f).isSome
  call : CallOk C n T.call

section
variable {C : Cx} {X : Fx} {W : Wd} {S : S} {s : Shared} {n : Nat} {sc : List (Str × NameKind)} {T : Ctx}

noncomputable def SndP (C : Cx) (n : Nat) (sc : List (Str × NameKind)) (e : Expr) (d : D AV) : Prop :=
  ∀ (X : Fx) (W : Wd) (S : Mine.S) (s : Shared), FxOk C n X sc → Inv C X W S s → Snd C X true (RP C) (eval e X.env) d W S s
theorem SndE.p {e : Expr} {d : D AV} (h : SndE C n sc e d) : SndP C n sc e d := fun X W S s F I => (h X W S s F I).mono fun _ _ _ _ r => .inl r

/-- a list that is fresh is settled -/
theorem Snd.freeze {m : Sem Value} {d : D AV} (h : Snd C X true (RFr C) m d W S s) : Snd C X true (RV C) m d W S s := by
  unfold Snd at h ⊢
  cases hd : d S with
  | stuck => trivial
  | exc c S' => rw [hd] at h; exact h
  | ok b S' =>
    rw [hd] at h
    refine wpAny_mono h (fun v s' ⟨W', l, I', r⟩ => ?_) fun _ _ x => x
    cases b <;> first | exact (let ⟨_, _, _, _, q⟩ := r; q.elim) | skip
    obtain ⟨W₂, l₂, I₂, r₂⟩ := I'.freeze r
    exact ⟨W₂, l.trans l₂, I₂, r₂⟩

/-- a call of a def by its name -/
theorem snd_call_fn (G : TOk C n T) {id : Str} {p pos : Pos} {args : List Expr} {ds : List (D AV)} {fn : Fn} (hg : isGlob sc id = true) (hf : C.P.find ⟨#[]⟩ id = some fn) (F : FxOk C n X sc) (h : TrE C X (RV C) args ds) (I : Inv C X W S s) :
    Snd C X true (RV C) (eval (.Call (.Name id p) args [] pos) X.env) (bnd (seqD ds) fun vs => dCallF T ⟨#[]⟩ id vs) W S s := by
  obtain ⟨fa, h1, h2⟩ := G.cx.fnG id fn hf
  show Snd C X true (RV C) (eval (.Name id p) X.env >>= fun f => callWith pos f [] (backTo pos (starEach args X.env)) []) _ W S s
  refine Snd.step (wp_globalName F I hg h2 ⟨W, .refl, I, ?_⟩)
  exact snd_callWith G.call F I hf h1 (fs := []) h VReps.nil

/-- a call of a built-in by its name, the arguments by value -/
theorem snd_call_bi {R : Wd → Heap → AV → Value → Prop} (G : TOk C n T) {id : Str} {b : Bi} {p pos : Pos} {args : List Expr} {ds : List (D AV)} {k : List AV → D AV} (hg : isGlob sc id = true) (hb : biNames.lookup id = some b) (F : FxOk C n X sc) (h : TrE C X (RV C) args ds) (I : Inv C X W S s)
    (hk : ∀ W' S' s' vs args, W.le true W' → Inv C X W' S' s' → VReps C W'.g W'.labs vs args → Snd C X true R (call (biVal b) args) (k vs) W' S' s') :
    Snd C X true R (eval (.Call (.Name id p) args [] pos) X.env) (bnd (seqD ds) k) W S s := by
  obtain ⟨h1, h2⟩ := G.bi.bi id b hb
  show Snd C X true R (eval (.Name id p) X.env >>= fun f => callWith pos f [] (backTo pos (starEach args X.env)) []) _ W S s
  refine Snd.step (wp_builtinName F I hg h1 h2 ⟨W, .refl, I, ?_⟩)
  exact snd_callV (by cases b <;> exact fun a z => nomatch z) h I hk

theorem snd_call_len (G : TOk C n T) {id : Str} {p pos : Pos} {e : Expr} {d : D AV} (hg : isGlob sc id = true) (hb : biNames.lookup id = some .len) (F : FxOk C n X sc) (hs : PySem.W.isStarred e = true → d = Mine.stk) (h : Snd C X true (RP C) (eval e X.env) d W S s) (I : Inv C X W S s) :
    Snd C X true (RV C) (eval (.Call (.Name id p) [e] [] pos) X.env) (bnd d biLen) W S s := by
  obtain ⟨h1, h2⟩ := G.bi.bi id _ hb
  show Snd C X true (RV C) (eval (.Name id p) X.env >>= fun f => callWith pos f [] (backTo pos (starEach [e] X.env)) []) _ W S s
  refine Snd.step (wp_builtinName F I hg h1 h2 ⟨W, .refl, I, ?_⟩)
  have hd : bnd d biLen = bnd (seqD [d]) fun vs => match vs with | [v] => biLen v | _ => stk := by
    funext S
    show bnd d biLen S = bnd (bnd d fun v => bnd (seqD []) fun vs => pur (v :: vs)) _ S
    unfold bnd
    cases d S <;> rfl
  rw [hd]
  refine snd_callB (f := .builtin "len") (fun a z => nomatch z) (snd_args1 hs h) (fun b S' e' => ?_) fun W' S' s' b a l I' r => ?_
  · by_cases hst : PySem.W.isStarred e = true
    · rw [hs hst] at e'; cases e'
    · rw [show starEach [e] X.env = (false, eval e X.env) :: starEach [] X.env from by cases e <;> first | rfl | exact absurd rfl hst]; rfl
  · obtain ⟨ap, ak⟩ := a
    obtain ⟨rfl, v, rfl, c, rfl, r⟩ : ak = [] ∧ ∃ v, ap = [v] ∧ _ := r
    show Snd C X true (RV C) (call (.builtin "len") [v]) (biLen c) W' S' s'
    unfold biLen
    refine Snd.deref I' r fun c' r' => Snd.opt fun q hq => ?_
    cases hl : lenV c' with
    | none => rw [hl] at hq; cases hq
    | some m => rw [hl] at hq; cases hq; exact wp_len I' r' hl

theorem snd_call_isi (G : TOk C n T) {id t : Str} {t' : String} {p q pos : Pos} {e : Expr} {d : D AV} (hg : isGlob sc id = true) (hb : biNames.lookup id = some .isinstance) (hgt : isGlob sc t = true) (ht : typeNames.lookup t = some t') (F : FxOk C n X sc)
    (hs : PySem.W.isStarred e = true → d = Mine.stk) (h : Snd C X true (RP C) (eval e X.env) d W S s) (I : Inv C X W S s) :
    Snd C X true (RV C) (eval (.Call (.Name id p) [e, .Name t q] [] pos) X.env) (bnd d fun v => Mine.opt ((tyNm v).map fun a => .bool (isiT a t'))) W S s := by
  obtain ⟨h1, h2⟩ := G.bi.bi id _ hb
  obtain ⟨h3, h4⟩ := G.bi.ty t _ ht
  show Snd C X true (RV C) (eval (.Name id p) X.env >>= fun f => callWith pos f [] (backTo pos (starEach [e, .Name t q] X.env)) []) _ W S s
  refine Snd.step (wp_builtinName F I hg h1 h2 ⟨W, .refl, I, ?_⟩)
  refine snd_callB (f := .builtin "isinstance") (fun a z => nomatch z) (snd_args2 (ty := .type t') hs rfl h fun W S s Q E I hQ => wp_builtinName F I hgt h3 h4 hQ) (fun b S' e' => ?_) fun W' S' s' b a l I' r => ?_
  · by_cases hst : PySem.W.isStarred e = true
    · rw [hs hst] at e'; cases e'
    · rw [show starEach [e, .Name t q] X.env = (false, eval e X.env) :: starEach [.Name t q] X.env from by cases e <;> first | rfl | exact absurd rfl hst]; rfl
  · obtain ⟨ap, ak⟩ := a
    obtain ⟨rfl, v, rfl, r⟩ : ak = [] ∧ ∃ v, ap = [v, .type t'] ∧ _ := r
    refine Snd.opt fun c hc => ?_
    cases hn : tyNm b with
    | none => rw [hn] at hc; cases hc
    | some an => rw [hn] at hc; cases hc; exact wp_isi I' r hn (typeNames_mem ht)

theorem snd_call_join {o : Expr} {m : Str} {apos pos : Pos} {e : Expr} {ds : List (D AV)} (hm : m = ("join" : Str)) (ho : isEmptyStr o = true) (h : TrE C X (RV C) [e] ds) (I : Inv C X W S s) :
    Snd C X true (RV C) (eval (.Call (.Attribute o m apos) [e] [] pos) X.env) (bnd (seqD ds) dJoin) W S s := by
  by_cases hst : PySem.W.isStarred e = true
  · match ds, h with
    | [d], h => rw [h.1.2 hst]; exact Snd.stk
    | [], h => exact h.elim
    | _ :: _ :: _, h => exact h.2.elim
  unfold isEmptyStr at ho
  split at ho
  case h_2 => cases ho
  rename_i sep k p
  have hsep : sep = ⟨#[]⟩ := by
    have : sep.cps.size = 0 := by simpa [Str.length] using ho
    cases sep; congr; exact Array.eq_empty_of_size_eq_zero this
  subst hsep
  subst hm
  rw [arm_eval_Call]
  have hse : starEach [e] X.env = [(false, eval e X.env)] := by cases e <;> first | rfl | exact absurd rfl hst
  have hform : methodCallForm ([e].length + ([] : List Keyword).length) (backTo pos (starEach [e] X.env)) (backToKw pos (keywordEach [] X.env)) = true := by rw [hse]; rfl
  show Snd C X true (RV C) (eval (.Constant (.str ⟨#[]⟩) k p) X.env >>= fun ov => _) _ W S s
  rw [show eval (.Constant (.str ⟨#[]⟩) k p) X.env = (mkStr ⟨#[]⟩ : Sem Value) from rfl]
  refine Snd.step (wpAny_mkStr ⟨W, .refl, I.toks, ?_⟩)
  have I' : Inv C X W S { s with toks := s.toks + 1 } := I.toks
  refine Snd.stand ?_ I'
  unfold methodCall PySem.calleeOf
  rw [hform]
  simp only [if_true]
  refine Snd.step (wpAny_holding ?_)
  with_reducible refine GM.join ?_
  refine ⟨W, .refl, I', ?_⟩
  have hpos : ∃ q, methodCallPos true (.Constant (.str ⟨#[]⟩) k p) X.env apos pos = Pure.pure q := by
    unfold methodCallPos
    split
    · exact ⟨_, rfl⟩
    · exact ⟨_, rfl⟩
  obtain ⟨cpos, hpos⟩ := hpos
  dsimp only
  rw [hpos]
  refine Snd.step (wpAny_pure ⟨W, .refl, I', ?_⟩)
  show Snd C X true (RV C) (callWith cpos (.builtin "str.join") [.str ⟨#[]⟩ s.toks] (backTo pos (starEach [e] X.env)) []) _ _ _ _
  refine snd_callB (f := .builtin "str.join") (fun a z => nomatch z) (snd_evalArgs h I') (fun b S' e' => plain_of h e') fun W' S' s' b a l I₂ r => ?_
  obtain ⟨ap, ak⟩ := a
  obtain ⟨rfl, r⟩ : ak = [] ∧ _ := r
  exact wp_join I₂ r
end
end Mine
end
section
set_option autoImplicit false
set_option linter.unusedVariables false
namespace Mine
open PySem PyProof.Rows

noncomputable def SlOk (C : Cx) (n : Nat) (T : Ctx) : Expr → Prop
  | .Slice lo hi _ _ => ∀ sc, SndO C n sc lo (evo T lo sc) ∧ SndO C n sc hi (evo T hi sc)
  | _ => True
/-- an expression does what the evaluator says, however it is asked -/
structure Gd (C : Cx) (n : Nat) (T : Ctx) (e : Expr) : Prop where
  v : ∀ sc, SndE C n sc e (ev T e .v sc)
  p : ∀ sc, SndP C n sc e (ev T e .p sc)
  i : ∀ sc, SndI C n sc e (ev T e .i sc)
  t : ∀ sc, SndT C n sc e (ev T e .v sc)
  st : PySem.W.isStarred e = true → ∀ md sc, ev T e md sc = stk
  sl : SlOk C n T e

section
variable {C : Cx} {X : Fx} {W : Wd} {S : S} {s : Shared} {n : Nat} {sc : List (Str × NameKind)} {T : Ctx}

theorem sndT_of {e : Expr} {d : D AV} (h : SndE C n sc e d) (he : ∀ env w, isTrue e env w = (do let v ← w; standAt e.pos; PySem.holding [v] (truthy v))) : SndT C n sc e d := fun X W S s F I => by
  rw [he]
  exact Snd.bind (h X W S s F I) fun a va W₁ S₁ s₁ l₁ I₁ r₁ _ => Snd.stand (snd_truthy I₁ r₁).holding I₁

theorem gd_stk {e : Expr} (h : ∀ md sc, ev T e md sc = stk) (hsl : SlOk C n T e := by trivial) : Gd C n T e where
  v := fun sc X W S s F I => by rw [h]; exact Snd.stk
  p := fun sc X W S s F I => by rw [h]; exact Snd.stk
  i := fun sc X W S s F I => by rw [h]; exact Snd.stk
  t := fun sc X W S s F I => by rw [h]; exact Snd.stk
  st := fun _ => h
  sl := hsl
theorem gd_of {e : Expr} {d : List (Str × NameKind) → D AV} (hd : ∀ md sc, ev T e md sc = post md (d sc)) (h : ∀ sc, SndE C n sc e (d sc)) (ht : ∀ sc, SndT C n sc e (d sc)) (hs : PySem.W.isStarred e = false) (hsl : SlOk C n T e := by trivial) : Gd C n T e where
  v := fun sc => by rw [hd]; exact h sc
  p := fun sc => by rw [hd]; exact (h sc).p
  i := fun sc => by rw [hd]; exact sndI_val (h sc)
  t := fun sc => by rw [hd]; exact ht sc
  st := fun q => by rw [hs] at q; cases q
  sl := hsl
theorem gd_of' {e : Expr} {d : List (Str × NameKind) → D AV} (hd : ∀ md sc, ev T e md sc = post md (d sc)) (h : ∀ sc, SndE C n sc e (d sc)) (he : ∀ env w, isTrue e env w = (do let v ← w; standAt e.pos; PySem.holding [v] (truthy v))) (hs : PySem.W.isStarred e = false) (hsl : SlOk C n T e := by trivial) : Gd C n T e :=
  gd_of hd h (fun sc => sndT_of (h sc) he) hs hsl

theorem trL_of {R : Wd → Heap → AV → Value → Prop} {md : Md} : ∀ {es : List Expr}, (∀ e ∈ es, ∀ W S s, Inv C X W S s → Snd C X true R (eval e X.env) (ev T e md sc) W S s) → TrL C X R (evalEach es X.env) (evs T es md sc)
  | [], _ => by simp only [evs, evalEach, TrL]
  | e :: r, h => by
    simp only [evs, evalEach, TrL]
    exact ⟨h e List.mem_cons_self, trL_of fun e' he => h e' (List.mem_cons_of_mem _ he)⟩
theorem trT_of : ∀ {es : List Expr}, (∀ e ∈ es, Gd C n T e) → FxOk C n X sc → TrT C X es (evs T es .v sc)
  | [], _, _ => by simp only [evs, TrT]
  | e :: r, h, F => by
    simp only [evs, TrT]
    exact ⟨fun W S s I => (h e List.mem_cons_self).t sc X W S s F I, trT_of (fun e' he => h e' (List.mem_cons_of_mem _ he)) F⟩
theorem trE_of : ∀ {es : List Expr}, (∀ e ∈ es, Gd C n T e) → FxOk C n X sc → TrE C X (RV C) es (evs T es .v sc)
  | [], _, _ => by simp only [evs, TrE]
  | e :: r, h, F => by
    simp only [evs, TrE]
    exact ⟨⟨fun W S s I => (h e List.mem_cons_self).v sc X W S s F I, fun q => (h e List.mem_cons_self).st q .v sc⟩, trE_of (fun e' he => h e' (List.mem_cons_of_mem _ he)) F⟩

theorem evs_length {md : Md} : ∀ {es : List Expr}, (evs T es md sc).length = es.length
  | [] => by simp only [evs, List.length_nil]
  | e :: r => by simp only [evs, List.length_cons, evs_length]

theorem marked_set {op : CmpOp} {e : Expr} {t : Sem Value} (h : ∀ a b c, e ≠ .Set a b c) : markedBehindIn op e t = t := by
  unfold markedBehindIn
  rw [show behindInMarks op e = false from by cases e <;> first | rfl | exact absurd rfl (h _ _ _)]
theorem ev_set {a : List Expr} {b : Nat} {c : Pos} {md : Md} : ev T (.Set a b c) md sc = stk := by simp only [ev]
theorem trL_marked : ∀ {ops : List CmpOp} {es : List Expr}, (∀ e ∈ es, Gd C n T e) → FxOk C n X sc → TrL C X (RP C) (markedEach ops es (evalEach es X.env)) (evs T es .p sc)
  | [], es, h, F => by
    rw [show markedEach [] es (evalEach es X.env) = evalEach es X.env from by cases es <;> rfl]
    exact trL_of fun e he W S s I => (h e he).p sc X W S s F I
  | op :: ops, [], h, F => by
    rw [show markedEach (op :: ops) [] (evalEach [] X.env) = [] from by cases ops <;> rfl]
    simp only [evs, TrL]
  | op :: ops, e :: es, h, F => by
    have h1 : ∀ W S s, Inv C X W S s → Snd C X true (RP C) (eval e X.env) (ev T e .p sc) W S s := fun W S s I => (h e List.mem_cons_self).p sc X W S s F I
    have hr := fun e' he => h e' (List.mem_cons_of_mem e he)
    by_cases hlast : ops = [] ∧ es = []
    · obtain ⟨rfl, rfl⟩ := hlast
      show TrL C X (RP C) [markedBehindIn op e (eval e X.env)] (evs T [e] .p sc)
      simp only [evs, TrL]
      refine ⟨fun W S s I => ?_, trivial⟩
      by_cases hset : ∃ a b c, e = .Set a b c
      · obtain ⟨a, b, c, rfl⟩ := hset; rw [ev_set]; exact Snd.stk
      · rw [marked_set fun a b c q => hset ⟨a, b, c, q⟩]; exact h1 W S s I
    · have e1 : markedEach (op :: ops) (e :: es) (evalEach (e :: es) X.env) = eval e X.env :: markedEach ops es (evalEach es X.env) := by
        cases ops with
        | nil => cases es with
          | nil => exact absurd ⟨rfl, rfl⟩ hlast
          | cons e' es' => rfl
        | cons o os => cases es <;> rfl
      rw [e1]
      simp only [evs, TrL]
      exact ⟨h1, trL_marked hr F⟩

theorem trd_not {d : D AV} : trd (bnd d fun a => Mine.opt (unV .Not a)) = bnd (trd d) fun b => pur (!b) := by
  funext S
  unfold trd bnd Mine.opt unV
  cases d S with
  | stuck => rfl
  | exc c S' => rfl
  | ok a S' =>
    dsimp only
    cases truthV a <;> rfl
theorem isTrue_not {x : Expr} {p : Pos} {env : Env} {w : Sem Value} : isTrue (.UnaryOp .Not x p) env w = (isTrue x env (eval x env) >>= fun b => Pure.pure (!b)) := rfl

theorem sndO_of {o : Option Expr} (h : ∀ e, o = some e → Gd C n T e) : SndO C n sc o (evo T o sc) := by
  cases o with
  | none => simp only [evo]; exact sndO_none
  | some e => simp only [evo]; exact sndO_some ((h e rfl).v sc)

theorem gd_name (G : TOk C n T) {x : Str} {p : Pos} : Gd C n T (.Name x p) where
  v := fun sc => by simp only [ev]; exact snd_name G.cx G.ctx
  p := fun sc X W S s F I => by simp only [ev]; exact (snd_peek G.cx G.ctx X W S s F I).mono fun _ _ _ _ r => r.1
  i := fun sc => by simp only [ev]; exact sndI_val (snd_name G.cx G.ctx)
  t := fun sc => by simp only [ev]; exact sndT_of (snd_name G.cx G.ctx) fun _ _ => rfl
  st := fun q => nomatch q
  sl := trivial

theorem calleeOf_fn (G : TOk C n T) {id : Str} (h : calleeOf T id sc = .fn) : isGlob sc id = true ∧ ∃ fn, C.P.find ⟨#[]⟩ id = some fn := by
  unfold calleeOf at h
  split at h
  · cases h
  · rename_i hg
    refine ⟨by simpa using hg, ?_⟩
    split at h
    · rename_i hf
      rw [G.fn] at hf
      exact Option.isSome_iff_exists.mp hf
    · split at h
      · cases h
      · split at h
        · cases h
        · split at h <;> cases h
theorem calleeOf_bi {id : Str} {b : Bi} (h : calleeOf T id sc = .bi b) : isGlob sc id = true ∧ biNames.lookup id = some b := by
  unfold calleeOf at h
  split at h
  · cases h
  · rename_i hg
    refine ⟨by simpa using hg, ?_⟩
    split at h
    · cases h
    · split at h
      · cases h
      · split at h
        · cases h
        · split at h <;> cases h
          assumption

theorem gd_call_name (G : TOk C n T) {id : Str} {p pos : Pos} {args : List Expr} {kws : List Keyword} (h : ∀ e ∈ args, Gd C n T e) : Gd C n T (.Call (.Name id p) args kws pos) := by
  by_cases hk : kws = []
  case neg =>
    have hk' : kws.isEmpty = false := by cases kws <;> first | rfl | exact absurd rfl hk
    refine gd_stk fun md sc => ?_
    simp only [ev, hk']
    split <;> first | rfl | skip
    · split <;> first | rfl | skip
      split <;> rfl
    · split <;> rfl
  subst hk
  -- one case for each callee
  have key : ∀ sc, (∃ d, (∀ md, ev T (.Call (.Name id p) args [] pos) md sc = post md d) ∧ SndE C n sc (.Call (.Name id p) args [] pos) d) ∨
      (ev T (.Call (.Name id p) args [] pos) .v sc = stk ∧ ev T (.Call (.Name id p) args [] pos) .p sc = stk ∧ SndI C n sc (.Call (.Name id p) args [] pos) (ev T (.Call (.Name id p) args [] pos) .i sc)) := by
    intro sc
    cases hc : calleeOf T id sc with
    | fn =>
      obtain ⟨hg, fn, hf⟩ := calleeOf_fn G hc
      refine .inl ⟨_, fun md => by simp only [ev, hc, List.isEmpty_nil, if_true], fun X W S s F I => snd_call_fn G hg hf F (trE_of h F) I⟩
    | cls => exact .inl ⟨stk, fun md => by simp only [ev, hc]; cases md <;> rfl, fun X W S s F I => Snd.stk⟩
    | xcls => exact .inl ⟨stk, fun md => by simp only [ev, hc]; cases md <;> rfl, fun X W S s F I => Snd.stk⟩
    | no => exact .inl ⟨stk, fun md => by simp only [ev, hc]; cases md <;> rfl, fun X W S s F I => Snd.stk⟩
    | bi b =>
      obtain ⟨hg, hb⟩ := calleeOf_bi hc
      have stuck : (∀ md, ev T (.Call (.Name id p) args [] pos) md sc = stk) → ∃ d, (∀ md, ev T (.Call (.Name id p) args [] pos) md sc = post md d) ∧ SndE C n sc (.Call (.Name id p) args [] pos) d :=
        fun q => ⟨stk, fun md => by rw [q]; cases md <;> rfl, fun X W S s F I => Snd.stk⟩
      by_cases h1 : b = .isinstance
      · subst h1
        refine .inl ?_
        by_cases ha : ∃ e t q, args = [e, .Name t q]
        · obtain ⟨e, t, q, rfl⟩ := ha
          cases hty : isiTy T t with
          | none => exact stuck fun md => by simp only [ev, hc, evs, secondName, hty]
          | some t' =>
            by_cases hgt : isGlob sc t = true
            · refine ⟨bnd (ev T e .p sc) fun v => Mine.opt ((tyNm v).map fun a => .bool (isiT a t')), fun md => by simp only [ev, hc, evs, secondName, hty, List.isEmpty_nil, hgt, Bool.and_self, if_true], fun X W S s F I => ?_⟩
              have ht : typeNames.lookup t = some t' := by unfold isiTy at hty; split at hty <;> first | (cases hty; done) | exact hty
              exact snd_call_isi G hg hb hgt ht F (fun q => (h e List.mem_cons_self).st q .p sc) ((h e List.mem_cons_self).p sc X W S s F I) I
            · exact stuck fun md => by simp only [ev, hc, evs, secondName, hty, List.isEmpty_nil, hgt, Bool.true_and, Bool.false_eq_true, if_false]
        · refine stuck fun md => ?_
          simp only [ev, hc]
          split
          · rename_i d d' t hd ht
            exfalso
            unfold secondName at ht
            split at ht
            · exact ha ⟨_, _, _, rfl⟩
            · cases ht
          · rfl
      by_cases h2 : b = .len
      · subst h2
        refine .inl ?_
        by_cases ha : ∃ e, args = [e]
        · obtain ⟨e, rfl⟩ := ha
          refine ⟨bnd (ev T e .p sc) biLen, fun md => by simp only [ev, hc, evs, List.isEmpty_nil, if_true], fun X W S s F I => ?_⟩
          exact snd_call_len G hg hb F (fun q => (h e List.mem_cons_self).st q .p sc) ((h e List.mem_cons_self).p sc X W S s F I) I
        · refine stuck fun md => ?_
          simp only [ev, hc]
          split
          · rename_i d hd
            exfalso
            have := congrArg List.length hd
            rw [evs_length] at this
            obtain ⟨e, he⟩ := List.length_eq_one_iff.mp this
            exact ha ⟨e, he⟩
          · rfl
      have hev : ∀ md, ev T (.Call (.Name id p) args [] pos) md sc = (if isIt b then (match md with | .i => bnd (seqD (evs T args .v sc)) fun vs => Mine.opt (itV b vs) | _ => stk) else post md (bnd (seqD (evs T args .v sc)) fun vs => Mine.opt (biV b vs))) := fun md => by
        cases b <;> first | exact absurd rfl h1 | exact absurd rfl h2 | (simp only [ev, hc, List.isEmpty_nil, if_true] <;> rfl)
      cases hit : isIt b with
      | true =>
        refine .inr ⟨by rw [hev, hit]; rfl, by rw [hev, hit]; rfl, ?_⟩
        rw [hev, hit]
        exact fun X W S s F I => snd_call_bi G hg hb F (trE_of h F) I fun W' S' s' vs as l I' r => Snd.opt fun c hc' => wp_itV F I' r hc'
      | false =>
        refine .inl ⟨bnd (seqD (evs T args .v sc)) fun vs => Mine.opt (biV b vs), fun md => by rw [hev, hit]; rfl, fun X W S s F I => ?_⟩
        exact snd_call_bi G hg hb F (trE_of h F) I fun W' S' s' vs as l I' r => Snd.opt fun c hc' => wp_biV I' r hc'
  have hT : ∀ (env : Env) (w : Sem Value), isTrue (.Call (.Name id p) args [] pos) env w = (do let v ← w; standAt (Expr.Call (.Name id p) args [] pos).pos; PySem.holding [v] (truthy v)) := fun _ _ => rfl
  have hE : ∀ sc, SndE C n sc (.Call (.Name id p) args [] pos) (ev T (.Call (.Name id p) args [] pos) .v sc) := fun sc => by
    rcases key sc with ⟨d, h1, h2⟩ | ⟨h1, _, _⟩
    · rw [h1]; exact h2
    · rw [h1]; exact fun X W S s F I => Snd.stk
  exact {
    v := hE
    p := fun sc => by
      rcases key sc with ⟨d, h1, h2⟩ | ⟨_, h1, _⟩
      · rw [h1]; exact h2.p
      · rw [h1]; exact fun X W S s F I => Snd.stk
    i := fun sc => by
      rcases key sc with ⟨d, h1, h2⟩ | ⟨_, _, h1⟩
      · rw [h1]; exact sndI_val h2
      · exact h1
    t := fun sc => sndT_of (hE sc) hT
    st := fun q => nomatch q
    sl := trivial }
end
end Mine
end
section
set_option autoImplicit false
set_option linter.unusedVariables false
namespace Mine
open PySem PyProof.Rows

section
variable {C : Cx} {X : Fx} {W : Wd} {S : S} {s : Shared} {n : Nat} {sc : List (Str × NameKind)} {T : Ctx}

theorem gd_unop {op : UnaryOp} {e : Expr} {p : Pos} (h : Gd C n T e) : Gd C n T (.UnaryOp op e p) := by
  by_cases hop : op = .Not
  · subst hop
    refine gd_of (d := fun sc => bnd (ev T e .v sc) fun a => Mine.opt (unV .Not a)) (fun md sc => by simp only [ev]) (fun sc => snd_unop (h.v sc)) (fun sc X W S s F I => ?_) rfl
    rw [trd_not, isTrue_not]
    exact Snd.bind (h.t sc X W S s F I) fun a b W₁ S₁ s₁ l₁ I₁ r₁ _ => Snd.pure I₁ (by rw [show a = b from r₁])
  · exact gd_of' (d := fun sc => bnd (ev T e .v sc) fun a => Mine.opt (unV op a)) (fun md sc => by simp only [ev]) (fun sc => snd_unop (h.v sc)) (fun env w => by cases op <;> first | rfl | exact absurd rfl hop) rfl

theorem gd_bool {op : BoolOp} {es : List Expr} {p : Pos} (h : ∀ e ∈ es, Gd C n T e) : Gd C n T (.BoolOp op es p) :=
  gd_of (d := fun sc => boolGo op (evs T es .v sc)) (fun md sc => by simp only [ev])
    (fun sc X W S s F I => by rw [arm_eval_BoolOp]; exact snd_boolOp _ _ W S s (trL_of fun e he W S s I => (h e he).v sc X W S s F I) I)
    (fun sc X W S s F I => by
      rw [show isTrue (.BoolOp op es p) X.env (eval (.BoolOp op es p) X.env) = allTrue op es X.env from rfl]
      exact snd_allTrue es _ W S s (trT_of h F) I) rfl

theorem gd_cmp {l : Expr} {ops : List CmpOp} {cs : List Expr} {p : Pos} (hl : Gd C n T l) (h : ∀ e ∈ cs, Gd C n T e) : Gd C n T (.Compare l ops cs p) := by
  by_cases hlen : ops.length = cs.length
  case neg => exact gd_stk fun md sc => by simp only [ev, beq_iff_eq, hlen, if_false]
  refine gd_of (d := fun sc => bnd (ev T l .v sc) fun a => cmpGo a ops (evs T cs .p sc)) (fun md sc => by simp only [ev, beq_iff_eq, hlen, if_true]) (fun sc X W S s F I => ?_) (fun sc X W S s F I => ?_) rfl
  · rw [arm_eval_Compare]
    exact Snd.bind (hl.v sc X W S s F I) fun a va W₁ S₁ s₁ l₁ I₁ r₁ _ => snd_compareChain F.units ops _ _ a va W₁ S₁ s₁ (by rw [evs_length]; exact hlen) (trL_marked h F) I₁ r₁
  · rw [show isTrue (.Compare l ops cs p) X.env (eval (.Compare l ops cs p) X.env) = (eval l X.env >>= fun v => testChain p v ops (markedEach ops cs (evalEach cs X.env))) from rfl]
    unfold trd
    rw [bnd_assoc]
    exact Snd.bind (hl.v sc X W S s F I) fun a va W₁ S₁ s₁ l₁ I₁ r₁ _ => snd_testChain F.units ops _ _ a va W₁ S₁ s₁ (by rw [evs_length]; exact hlen) (trL_marked h F) I₁ r₁

theorem gd_sub (G : TOk C n T) {v i : Expr} {p : Pos} (hv : Gd C n T v) (hi : Gd C n T i) : Gd C n T (.Subscript v i p) := by
  by_cases hs : ∃ lo hi q, i = .Slice lo hi none q
  · obtain ⟨lo, hi', q, rfl⟩ := hs
    exact gd_of' (d := fun sc => withBase T sc v (ev T v .v sc) (bnd (evo T lo sc) fun a => bnd (evo T hi' sc) fun b => pur (a, b)) fun c p => slcV c p.1 p.2) (fun md sc => by simp only [ev])
      (fun sc => snd_sub_slice G.cx G.ctx (hv.v sc) (hi.sl sc).1 (hi.sl sc).2) (fun _ _ => rfl) rfl
  · have hsl : ∀ a b p, i ≠ .Slice a b none p := fun a b p q => hs ⟨a, b, p, q⟩
    refine gd_of' (d := fun sc => withBase T sc v (ev T v .v sc) (ev T i .v sc) idxV) (fun md sc => ?_) (fun sc => snd_sub_idx G.cx G.ctx hsl (hv.v sc) (hi.v sc)) (fun _ _ => rfl) rfl
    rw [ev]
    exact hsl

theorem gd_comp {elt t iter : Expr} {ifs : List Expr} {isa : Int} {scope : Scope} {p : Pos} (he : Gd C n T elt) (hi : Gd C n T iter) (hts : ∀ e ∈ ifs, Gd C n T e) : Gd C n T (.ListComp elt [⟨t, iter, ifs, isa⟩] scope p) := by
  have hev : ∀ md sc, ev T (.ListComp elt [⟨t, iter, ifs, isa⟩] scope p) md sc = (if isa != 0 || !tgtLoc scope.names t || !scOk sc scope.names || scope.kind != .function then stk else post md (dCompL scope.names t (ev T elt .v scope.names) (evs T ifs .v scope.names) (ev T iter .i sc))) := fun md sc => by
    simp only [ev] <;> rfl
  have hE : ∀ sc, ∃ d, (∀ md, ev T (.ListComp elt [⟨t, iter, ifs, isa⟩] scope p) md sc = post md d) ∧ SndE C n sc (.ListComp elt [⟨t, iter, ifs, isa⟩] scope p) d := fun sc => by
    by_cases hc : (isa != 0 || !tgtLoc scope.names t || !scOk sc scope.names || scope.kind != .function) = true
    · exact ⟨stk, fun md => by rw [hev, if_pos hc]; cases md <;> rfl, fun X W S s F I => Snd.stk⟩
    · by_cases hset : ∃ a b c, iter = .Set a b c
      · obtain ⟨a, b, c, rfl⟩ := hset
        refine ⟨stk, fun md => ?_, fun X W S s F I => Snd.stk⟩
        rw [hev, if_neg hc, ev_set]
        cases md <;> rfl
      · refine ⟨_, fun md => by rw [hev, if_neg hc], fun X W S s F I => ?_⟩
        simp only [Bool.or_eq_true, not_or, bne_iff_ne, ne_eq, Decidable.not_not, Bool.not_eq_true', Bool.not_eq_false] at hc
        obtain ⟨⟨⟨rfl, h2⟩, h3⟩, h4⟩ := hc
        exact (snd_comp_fresh (fun a b c q => hset ⟨a, b, c, q⟩) h4 h3 h2 (hi.i sc) (he.v scope.names) (fun X F => trT_of hts F) X W S s F I).freeze
  have hV : ∀ sc, SndE C n sc (.ListComp elt [⟨t, iter, ifs, isa⟩] scope p) (ev T (.ListComp elt [⟨t, iter, ifs, isa⟩] scope p) .v sc) := fun sc => by
    obtain ⟨d, h1, h2⟩ := hE sc; rw [h1]; exact h2
  exact {
    v := hV
    p := fun sc => by obtain ⟨d, h1, h2⟩ := hE sc; rw [h1]; exact h2.p
    i := fun sc => by obtain ⟨d, h1, h2⟩ := hE sc; rw [h1]; exact sndI_val h2
    t := fun sc => sndT_of (hV sc) fun _ _ => rfl
    st := fun q => nomatch q
    sl := trivial }

theorem gd_meth {o : Expr} {m : Str} {apos pos : Pos} {args : List Expr} {kws : List Keyword} (h : ∀ e ∈ args, Gd C n T e) : Gd C n T (.Call (.Attribute o m apos) args kws pos) := by
  have hev : ∀ md sc, ev T (.Call (.Attribute o m apos) args kws pos) md sc = (if m == "join" && isEmptyStr o && kws.isEmpty && args.length == 1 then post md (bnd (seqD (evs T args .v sc)) dJoin) else stk) := fun md sc => by
    simp only [ev]
  by_cases hc : (m == "join" && isEmptyStr o && kws.isEmpty && args.length == 1) = true
  case neg => exact gd_stk fun md sc => by rw [hev, if_neg hc]
  refine gd_of' (d := fun sc => bnd (seqD (evs T args .v sc)) dJoin) (fun md sc => by rw [hev, if_pos hc]) (fun sc X W S s F I => ?_) (fun _ _ => rfl) rfl
  simp only [Bool.and_eq_true, beq_iff_eq] at hc
  obtain ⟨⟨⟨h1, h2⟩, h3⟩, h4⟩ := hc
  obtain ⟨e, rfl⟩ := List.length_eq_one_iff.mp h4
  obtain rfl : kws = [] := by cases kws <;> first | rfl | cases h3
  exact snd_call_join h1 h2 (trE_of h F) I

theorem gd_call (G : TOk C n T) {f : Expr} {pos : Pos} {args : List Expr} {kws : List Keyword} (h : ∀ e ∈ args, Gd C n T e) : Gd C n T (.Call f args kws pos) := by
  cases f <;> first | exact gd_call_name G h | exact gd_meth h | exact gd_stk fun md sc => by simp only [ev]

theorem gd_tuple {es : List Expr} {k : Nat} {p : Pos} (h : ∀ e ∈ es, Gd C n T e) : Gd C n T (.Tuple es k p) :=
  gd_of' (d := fun sc => bnd (seqD (evs T es .v sc)) fun vs => Mine.opt (mkTup vs)) (fun md sc => by simp only [ev]) (fun sc X W S s F I => snd_tuple (trE_of h F) I) (fun _ _ => rfl) rfl
theorem gd_list {es : List Expr} {p : Pos} (h : ∀ e ∈ es, Gd C n T e) : Gd C n T (.List es p) :=
  gd_of' (d := fun sc => bnd (seqD (evs T es .v sc)) fun vs => Mine.opt (mkLst vs)) (fun md sc => by simp only [ev]) (fun sc X W S s F I => snd_list (trE_of h F) I) (fun _ _ => rfl) rfl

mutual
theorem gd (G : TOk C n T) : ∀ e : Expr, Gd C n T e
  | .Constant c k p => gd_of' (d := fun _ => dConst c) (fun md sc => by simp only [ev]) (fun sc => snd_const) (fun _ _ => rfl) rfl
  | .Name x p => gd_name G
  | .BinOp l op r p => gd_of' (d := fun sc => bnd (ev T l .v sc) fun a => bnd (ev T r .v sc) fun b => Mine.opt (binV op a b)) (fun md sc => by simp only [ev]) (fun sc => snd_binop ((gd G l).v sc) ((gd G r).v sc)) (fun _ _ => rfl) rfl
  | .UnaryOp op e p => gd_unop (gd G e)
  | .BoolOp op es p => gd_bool (gds G es)
  | .Compare l ops cs p => gd_cmp (gd G l) (gds G cs)
  | .Tuple es k p => gd_tuple (gds G es)
  | .List es p => gd_list (gds G es)
  | .Subscript v i p => gd_sub G (gd G v) (gd G i)
  | .ListComp elt [⟨t, iter, ifs, isa⟩] scope p => gd_comp (gd G elt) (gd G iter) (gds G ifs)
  | .ListComp elt [] scope p => gd_stk fun md sc => by simp only [ev]
  | .ListComp elt (_ :: _ :: _) scope p => gd_stk fun md sc => by simp only [ev]
  | .Call f args kws p => gd_call G (gds G args)
  | .Slice lo hi st p => gd_stk (fun md sc => by simp only [ev]) fun sc => ⟨sndO_of (gdo G lo), sndO_of (gdo G hi)⟩
  | .NamedExpr .. => gd_stk fun md sc => by simp only [ev]
  | .Lambda .. => gd_stk fun md sc => by simp only [ev]
  | .IfExp .. => gd_stk fun md sc => by simp only [ev]
  | .Dict .. => gd_stk fun md sc => by simp only [ev]
  | .Set .. => gd_stk fun md sc => by simp only [ev]
  | .SetComp .. => gd_stk fun md sc => by simp only [ev]
  | .DictComp .. => gd_stk fun md sc => by simp only [ev]
  | .GeneratorExp .. => gd_stk fun md sc => by simp only [ev]
  | .Await .. => gd_stk fun md sc => by simp only [ev]
  | .Yield .. => gd_stk fun md sc => by simp only [ev]
  | .YieldFrom .. => gd_stk fun md sc => by simp only [ev]
  | .FormattedValue .. => gd_stk fun md sc => by simp only [ev]
  | .JoinedStr .. => gd_stk fun md sc => by simp only [ev]
  | .Attribute .. => gd_stk fun md sc => by simp only [ev]
  | .Starred .. => gd_stk fun md sc => by simp only [ev]
theorem gds (G : TOk C n T) : ∀ es : List Expr, ∀ e ∈ es, Gd C n T e
  | [], _, h => nomatch h
  | e :: r, e', h => (List.mem_cons.mp h).elim (fun q => q ▸ gd G e) (fun q => gds G r e' q)
theorem gdo (G : TOk C n T) : ∀ o : Option Expr, ∀ e, o = some e → Gd C n T e
  | none, _, h => nomatch h
  | some e, e', h => Option.some.inj h ▸ gd G e
end
end
end Mine
end
section
set_option autoImplicit false
set_option linter.unusedVariables false
namespace Mine
open PySem PyProof.Rows

section
variable {C : Cx} {X : Fx} {W : Wd} {S : S} {s : Shared} {n : Nat} {sc : List (Str × NameKind)} {T : Ctx}

theorem sndS_stk {st : Stmt} {d : D Fl} (h : d = stk) : SndS C n sc st d := fun X W S s F hf I => by rw [h]; exact Snd.stk

theorem gs_assign (G : TOk C n T) {ts : List Expr} {v : Expr} {pos : Pos} : SndS C n sc (.Assign ts v pos) (ex T (.Assign ts v pos) sc) := by
  by_cases hts : ∃ x p, ts = [.Name x p]
  case neg =>
    refine sndS_stk ?_
    simp only [ex]
    split
    · exact absurd ⟨_, _, rfl⟩ hts
    · rfl
  obtain ⟨x, p, rfl⟩ := hts
  by_cases hst : isSt sc x = true
  case neg => exact sndS_stk (by simp only [ex, hst, Bool.false_eq_true, if_false])
  have hex : ex T (.Assign [.Name x p] v pos) sc = (bnd (ev T v .v sc) fun a => bnd (wrLoc x (lvOf (makes v) a)) fun _ => pur .next) := by simp only [ex, hst, if_true]
  rw [hex]
  have plain : makes v = false → (∀ env : Env, swapsWith v (some (.Name x p)) pos.line env = Pure.pure false) → SndS C n sc (.Assign [.Name x p] v pos) (bnd (ev T v .v sc) fun a => bnd (wrLoc x (lvOf (makes v) a)) fun _ => pur .next) := fun h1 h2 => by
    rw [h1]; exact sndS_assign_val h2 hst ((gd G v).v sc)
  cases v <;> first | exact plain rfl (fun _ => rfl) | skip
  · -- ListComp
    rename_i elt gens scope q
    match gens with
    | [⟨t, iter, ifs, isa⟩] =>
      by_cases hc : (isa != 0 || !tgtLoc scope.names t || !scOk sc scope.names || scope.kind != .function) = true
      · have : ev T (.ListComp elt [⟨t, iter, ifs, isa⟩] scope q) .v sc = stk := by simp only [ev, hc, if_true]
        rw [this]; exact fun X W S s F hf I => Snd.stk
      · by_cases hset : ∃ a b c, iter = .Set a b c
        · obtain ⟨a, b, c, rfl⟩ := hset
          have : ev T (.ListComp elt [⟨t, .Set a b c, ifs, isa⟩] scope q) .v sc = stk := by
            simp only [ev, hc]; rfl
          rw [this]; exact fun X W S s F hf I => Snd.stk
        · have hev : ev T (.ListComp elt [⟨t, iter, ifs, isa⟩] scope q) .v sc = dCompL scope.names t (ev T elt .v scope.names) (evs T ifs .v scope.names) (ev T iter .i sc) := by
            simp only [ev, hc]; rfl
          rw [hev]
          simp only [Bool.or_eq_true, not_or, bne_iff_ne, ne_eq, Decidable.not_not, Bool.not_eq_true', Bool.not_eq_false] at hc
          obtain ⟨⟨⟨rfl, h2⟩, h3⟩, h4⟩ := hc
          exact sndS_assign_comp hst (fun a b c q => hset ⟨a, b, c, q⟩) h4 h3 h2 ((gd G iter).i sc) ((gd G elt).v scope.names) (fun X F => trT_of (gds G ifs) F)
    | [] =>
      have : ev T (.ListComp elt [] scope q) .v sc = stk := by simp only [ev]
      rw [this]; exact fun X W S s F hf I => Snd.stk
    | _ :: _ :: _ =>
      rename_i a b c
      have : ev T (.ListComp elt (a :: b :: c) scope q) .v sc = stk := by simp only [ev]
      rw [this]; exact fun X W S s F hf I => Snd.stk
  · -- SetComp
    rename_i a b c d
    have : ev T (.SetComp a b c d) .v sc = stk := by simp only [ev]
    rw [this]; exact fun X W S s F hf I => Snd.stk
  · rename_i a b c d e
    have : ev T (.DictComp a b c d e) .v sc = stk := by simp only [ev]
    rw [this]; exact fun X W S s F hf I => Snd.stk
  · -- List
    rename_i es q
    have hev : ev T (.List es q) .v sc = (bnd (seqD (evs T es .v sc)) fun vs => Mine.opt (mkLst vs)) := by simp only [ev]; rfl
    rw [hev]
    exact fun X W S s F hf I => sndS_assign_own X W S s F hf I rfl hst (snd_list_fresh (trE_of (gds G es) F) I)

mutual
theorem gs (G : TOk C n T) : ∀ (st : Stmt) (sc : List (Str × NameKind)), SndS C n sc st (ex T st sc)
  | .Pass p, sc => by simp only [ex]; exact sndS_pass
  | .Return v p, sc => by simp only [ex]; exact sndS_return (sndO_of (gdo G v))
  | .If t a b p, sc => by simp only [ex]; exact sndS_if ((gd G t).t sc) (gss G a sc) (gss G b sc)
  | .For t it body orelse p, sc => by
    by_cases hc : (orelse.isEmpty && tgtOk sc t) = true
    · obtain ⟨h1, h2⟩ := Bool.and_eq_true_iff.mp hc
      obtain rfl : orelse = [] := by cases orelse <;> first | rfl | cases h1
      by_cases hset : ∃ a b c, it = .Set a b c
      · obtain ⟨a, b, c, rfl⟩ := hset
        refine sndS_stk ?_
        simp only [ex, List.isEmpty_nil, Bool.true_and, h2, if_true, ev_set]; rfl
      · have hex : ex T (.For t it body [] p) sc = (bnd (ev T it .i sc) fun l => match l with | .lst l => forGo t (exs T body sc) l | _ => stk) := by
          simp only [ex, List.isEmpty_nil, Bool.true_and, h2, if_true] <;> rfl
        rw [hex]
        exact sndS_for (fun a b c q => hset ⟨a, b, c, q⟩) ((gd G it).i sc) (gss G body sc) h2
    · exact sndS_stk (by simp only [ex]; rw [if_neg hc])
  | .Assign ts v p, sc => gs_assign G
  | .FunctionDef .., sc => sndS_stk (by simp only [ex])
  | .AsyncFunctionDef .., sc => sndS_stk (by simp only [ex])
  | .ClassDef .., sc => sndS_stk (by simp only [ex])
  | .Delete .., sc => sndS_stk (by simp only [ex])
  | .TypeAlias .., sc => sndS_stk (by simp only [ex])
  | .AugAssign .., sc => sndS_stk (by simp only [ex])
  | .AnnAssign .., sc => sndS_stk (by simp only [ex])
  | .AsyncFor .., sc => sndS_stk (by simp only [ex])
  | .While .., sc => sndS_stk (by simp only [ex])
  | .With .., sc => sndS_stk (by simp only [ex])
  | .AsyncWith .., sc => sndS_stk (by simp only [ex])
  | .Match .., sc => sndS_stk (by simp only [ex])
  | .Raise .., sc => sndS_stk (by simp only [ex])
  | .Try .., sc => sndS_stk (by simp only [ex])
  | .TryStar .., sc => sndS_stk (by simp only [ex])
  | .Assert .., sc => sndS_stk (by simp only [ex])
  | .Import .., sc => sndS_stk (by simp only [ex])
  | .ImportFrom .., sc => sndS_stk (by simp only [ex])
  | .Global .., sc => sndS_stk (by simp only [ex])
  | .Nonlocal .., sc => sndS_stk (by simp only [ex])
  | .Expr .., sc => sndS_stk (by simp only [ex])
  | .Break .., sc => sndS_stk (by simp only [ex])
  | .Continue .., sc => sndS_stk (by simp only [ex])
theorem gss (G : TOk C n T) : ∀ (st : List Stmt) (sc : List (Str × NameKind)), SndSs C n sc st (exs T st sc)
  | [], sc => by simp only [exs]; exact sndSs_nil
  | st :: r, sc => by simp only [exs]; exact sndSs_cons (gs G st sc) (gss G r sc)
end

/-- the program's own functions do what the evaluator says -/
theorem callOk (K : CxOk C) (B : BiOk C) {k : Nat} : ∀ n, CallOk C n (callN C.P k n)
  | 0 => fun c f vs st h => absurd (by rw [callN]) h
  | n + 1 => by
    have ih := callOk K B (k := k) n
    have G : TOk C n (ctxOf C.P k (callN C.P k n) (callN C.P k (n - 4))) := ⟨K, B, ⟨rfl⟩, fun f => rfl, ih⟩
    have hb : BodyOk C n (ctxOf C.P k (callN C.P k n) (callN C.P k (n - 4))) := fun c f fn _ X W S s F hf I => gss G fn.body fn.names X W S s F hf I
    have := callOk_of K hb
    rw [show callN C.P k (n + 1) = fun c f vs st => match C.P.find c f with | some fn => runFn (ctxOf C.P k (callN C.P k n) (callN C.P k (n - 4))) fn vs st | none => .stuck from by funext c f vs st; rw [callN] <;> rfl]
    exact this
end
end Mine
end
section
set_option autoImplicit false
set_option linter.unusedVariables false
namespace Mine
open PySem PyProof.Rows

theorem zip_lookup_some : ∀ {ps : List Str} {vs : List Value} {x : Str}, vs.length = ps.length → x ∈ ps → ((ps.zip vs).lookup x).isSome = true
  | [], _, _, _, h => nomatch h
  | p :: ps, [], _, hl, _ => nomatch hl
  | p :: ps, v :: vs, x, hl, h => by
    rw [List.zip_cons_cons, List.lookup_cons]
    by_cases hx : (x == p) = true
    · rw [hx]; rfl
    · rw [show (x == p) = false from by simpa using hx]
      exact zip_lookup_some (Nat.succ.inj hl) ((List.mem_cons.mp h).resolve_left fun q => hx (by rw [q]; exact beq_self_eq_true _))
theorem filterMap_congr' {α β : Type} {f g : α → Option β} : ∀ {l : List α}, (∀ x ∈ l, f x = g x) → l.filterMap f = l.filterMap g
  | [], _ => rfl
  | x :: r, h => by rw [List.filterMap_cons, List.filterMap_cons, h x List.mem_cons_self, filterMap_congr' fun y hy => h y (List.mem_cons_of_mem _ hy)]
theorem zip_filterMap : ∀ {ps : List Str} {vs : List Value}, vs.length = ps.length → ps.Nodup → (ps.filterMap fun n => ((ps.zip vs).lookup n).map (n, ·)) = ps.zip vs
  | [], [], _, _ => rfl
  | [], _ :: _, h, _ => nomatch h
  | _ :: _, [], h, _ => nomatch h
  | p :: ps, v :: vs, hl, hn => by
    have hn' := List.nodup_cons.mp hn
    have e : ∀ n ∈ ps, (((p :: ps).zip (v :: vs)).lookup n).map (Prod.mk n) = ((ps.zip vs).lookup n).map (Prod.mk n) := fun n h => by
      rw [List.zip_cons_cons, List.lookup_cons, show (n == p) = false from by
        have : n ≠ p := fun q => hn'.1 (q ▸ h)
        simpa using this]
    rw [List.filterMap_cons]
    rw [show (((p :: ps).zip (v :: vs)).lookup p).map (Prod.mk p) = some (p, v) from by rw [List.zip_cons_cons, List.lookup_cons, beq_self_eq_true]; rfl]
    dsimp only
    rw [filterMap_congr' e, zip_filterMap (Nat.succ.inj hl) hn'.2]
    rfl
theorem bindArgs_plain {fd : FuncData} {ps : List Str} {vals : List Value} (h1 : fd.params.posonlyargs = []) (h2 : fd.params.args.map (·.arg) = ps) (h3 : fd.params.kwonlyargs = []) (h4 : fd.params.vararg = none) (h5 : fd.params.kwarg = none) (h6 : fd.defaults = .none)
    (hn : ps.Nodup) (hl : vals.length = ps.length) : bindArgs fd ⟨vals, []⟩ = Pure.pure (ps.zip vals) := by
  have hm : (ps.take (ps.length - 0)).filter (fun n => ((ps.zip vals).lookup n).isNone) = [] := by
    rw [List.filter_eq_nil_iff]
    intro x hx
    have := zip_lookup_some hl (List.mem_of_mem_take hx)
    simp [Option.isNone_iff_eq_none, Option.isSome_iff_ne_none.mp this]
  have hg : ¬ (vals.length > ps.length) := by omega
  have hf := zip_filterMap hl hn
  have hs : seqItems? .none = (Pure.pure none : Sem (Option (Array Value))) := rfl
  unfold bindArgs
  simp only [h1, h2, h3, h4, h5, h6, List.map_nil, List.nil_append, List.append_nil, List.forIn_nil, hs, hg, pure_bind, Option.getD_none, List.drop_nil, List.zip_nil_right, List.length_nil]
  simp only [hm, hf, decide_false, Bool.false_and, Bool.false_eq_true, if_false, List.isEmpty_nil, Bool.not_true]

noncomputable def fnOfRec (d : DefRec) : Str × Str × Fn := (⟨#[]⟩, d.name, ⟨argNames d.params, d.body, d.scope.names⟩)
noncomputable def recOk (d : DefRec) : Bool :=
  d.scope.kind == .function && !d.scope.isCoroutine && !d.scope.isGenerator && d.params.posonlyargs.isEmpty && d.params.kwonlyargs.isEmpty && d.params.vararg.isNone && d.params.kwarg.isNone &&
  decide (argNames d.params).Nodup && (argNames d.params).all (fun x => d.scope.names.lookup x == some .local || d.scope.names.lookup x == some .cell) && d.scope.names.all fun q => q.2 != .free
structure RecOk (d : DefRec) : Prop where
  kind : d.scope.kind = .function
  co : d.scope.isCoroutine = false
  gen : d.scope.isGenerator = false
  po : d.params.posonlyargs = []
  ko : d.params.kwonlyargs = []
  va : d.params.vararg = none
  ka : d.params.kwarg = none
  nodup : (argNames d.params).Nodup
  par : ∀ x ∈ argNames d.params, d.scope.names.lookup x = some .local ∨ d.scope.names.lookup x = some .cell
  nofree : ∀ x, d.scope.names.lookup x ≠ some .free
theorem lookup_mem {α : Type} {x : Str} {v : α} : ∀ {l : List (Str × α)}, l.lookup x = some v → (x, v) ∈ l
  | [], h => nomatch h
  | (y, w) :: r, h => by
    rw [List.lookup_cons] at h
    by_cases hx : (x == y) = true
    · rw [hx] at h; cases h; rw [eq_of_beq hx]; exact List.mem_cons_self
    · rw [show (x == y) = false from by simpa using hx] at h; exact List.mem_cons_of_mem _ (lookup_mem h)
theorem recOk_spec {d : DefRec} (h : recOk d = true) : RecOk d := by
  unfold recOk at h
  simp only [Bool.and_eq_true, beq_iff_eq, Bool.not_eq_true', decide_eq_true_eq, List.all_eq_true, Bool.or_eq_true, List.isEmpty_iff, Option.isNone_iff_eq_none, bne_iff_ne] at h
  obtain ⟨⟨⟨⟨⟨⟨⟨⟨⟨h1, h2⟩, h3⟩, h4⟩, h5⟩, h6⟩, h7⟩, h8⟩, h9⟩, h10⟩ := h
  exact ⟨h1, h2, h3, h4, h5, h6, h7, h8, h9, fun x q => h10 _ (lookup_mem q) rfl⟩

noncomputable def mkCx (prog : Program) (w : World) (s₁ : Shared) (P : Pg) (mg mb : Str → Option Value) : Cx where
  prog := prog
  w := w
  s0 := s₁
  P := P
  clsA := fun _ => none
  mg := mg
  mb := mb
  fnA := fun c f => if c = ⟨#[]⟩ then (match mg f with | some (.ref a) => some a | _ => none) else none
  fnO := fun a => (s₁.heap.get? a).getD default
  fnD := fun a => match ((s₁.heap.get? a).getD default).data with | .func fd => fd | _ => default

theorem find_rec {P : Pg} {recs : List DefRec} (hP : P.fns = recs.map fnOfRec) {c f : Str} {fn : Fn} (h : P.find c f = some fn) : c = ⟨#[]⟩ ∧ ∃ d ∈ recs, d.name = f ∧ fn = ⟨argNames d.params, d.body, d.scope.names⟩ := by
  unfold Pg.find at h
  rw [hP] at h
  cases hf : (recs.map fnOfRec).find? (fun x => x.1 == c && x.2.1 == f) with
  | none => rw [hf] at h; cases h
  | some x =>
    rw [hf] at h; cases h
    obtain ⟨d, hd, rfl⟩ := List.mem_map.mp (List.mem_of_find?_eq_some hf)
    have := List.find?_some hf
    simp only [fnOfRec, Bool.and_eq_true, beq_iff_eq] at this
    exact ⟨this.1.symm, d, hd, this.2, rfl⟩

section
variable {p prog : Program} {w : World} {s₁ : Shared} {P : Pg} {mg mb : Str → Option Value} {loose : List Str} {mean : ExcName → Option Value}

theorem fnA_mk {f : Str} {a : Addr} (h : mg f = some (.ref a)) : (mkCx prog w s₁ P mg mb).fnA ⟨#[]⟩ f = some a := by
  unfold mkCx; dsimp only; rw [if_pos rfl, h]
theorem stat_top (T : Top p loose mean mg mb s₁.heap) (hP : P.fns = (recsOf p).map fnOfRec) (hok : (recsOf p).all recOk = true) : Stat (mkCx prog w s₁ P mg mb) fun b => s₁.heap.get? b := fun h hk => by
  have T' := T.keeps hk
  refine ⟨T'.nolimit, fun c f fn hf => ?_, T'.g, T'.b⟩
  obtain ⟨rfl, d, hd, rfl, rfl⟩ := find_rec hP hf
  have R := recOk_spec (List.all_eq_true.mp hok d hd)
  obtain ⟨a, o, pm, code, doc, h1, h2, h3, h4⟩ := T.fn d hd
  obtain ⟨a', o', pm', code', doc', h1', h2', h3', h4'⟩ := T'.fn d hd
  rw [h1] at h1'; cases h1'
  have e2 := hk a o h2
  rw [e2] at h2'; cases h2'
  rw [h3] at h3'
  have ec : code = code' := by
    have := congrArg (fun x => match x with | Data.func fd => fd.code | _ => default) h3'
    exact this
  subst ec
  refine ⟨a, fnA_mk h1, ?_⟩
  have eO : (mkCx prog w s₁ P mg mb).fnO a = o := by show (s₁.heap.get? a).getD default = o; rw [h2]; rfl
  have eD : (mkCx prog w s₁ P mg mb).fnD a = Calls.docDef d.name d.params d.body d.scope pm code doc := by
    show (match ((s₁.heap.get? a).getD default).data with | .func fd => fd | _ => default) = _
    rw [h2]; show (match o.data with | .func fd => fd | _ => default) = _; rw [h3]
  rw [eO, eD]
  exact {
    obj := e2
    dat := h3
    body := rfl
    names := rfl
    kind := R.kind
    co := R.co
    gen := R.gen
    clo := rfl
    glob := rfl
    blt := rfl
    code := h4'
    bind := fun vals hl => bindArgs_plain R.po rfl R.ko R.va R.ka rfl R.nodup hl }

theorem cx_top (T : Top p loose mean mg mb s₁.heap) (hP : P.fns = (recsOf p).map fnOfRec) (hok : (recsOf p).all recOk = true) (hc : ∀ x av, P.consts.lookup x = some av → ∃ i, av = .int i ∧ valOf p x = some (.int i)) : CxOk (mkCx prog w s₁ P mg mb) where
  wr := fun c f fn hf => by
    obtain ⟨rfl, d, hd, rfl, rfl⟩ := find_rec hP hf
    have R := recOk_spec (List.all_eq_true.mp hok d hd)
    exact ⟨R.nodup, R.par, R.nofree⟩
  fnG := fun f fn hf => by
    obtain ⟨_, d, hd, rfl, rfl⟩ := find_rec hP hf
    obtain ⟨a, o, pm, code, doc, h1, h2, h3, h4⟩ := T.fn d hd
    exact ⟨a, fnA_mk h1, h1⟩
  const := fun x av h => by
    obtain ⟨i, rfl, hv⟩ := hc x av h
    obtain ⟨v, h1, h2⟩ := T.const x _ hv
    have := h2 s₁.heap
    cases this
    exact ⟨i, _, rfl, h1⟩

noncomputable def freeNames : List Str := biNames.map (·.1) ++ typeNames.map (·.1)
theorem mem_lookup {α : Type} {x : Str} {v : α} {l : List (Str × α)} (h : l.lookup x = some v) : x ∈ l.map (·.1) := List.mem_map.mpr ⟨_, lookup_mem h, rfl⟩
theorem boot_bi : ∀ q ∈ biNames, bootBuiltins q.1 = some (biVal q.2) := by
  intro q hq
  simp only [biNames, List.mem_cons, List.not_mem_nil, or_false] at hq
  rcases hq with rfl | rfl | rfl | rfl | rfl | rfl | rfl | rfl | rfl | rfl | rfl | rfl | rfl | rfl | rfl <;> kernel_rfl
theorem boot_ty : ∀ q ∈ typeNames, bootBuiltins q.1 = some (.type q.2) := by
  intro q hq
  simp only [typeNames, List.mem_cons, List.not_mem_nil, or_false] at hq
  rcases hq with rfl | rfl | rfl | rfl | rfl | rfl <;> kernel_rfl
theorem free_ne : ∀ x ∈ freeNames, x ≠ "__name__" := by decide +kernel

theorem bi_top (T : Top p loose mean mg mb s₁.heap)
    (hf : (freeNames.all fun x => !startupNames.contains x && !loose.contains x && !((recsOf p).map (·.name)).contains x && !((litsOf p).map (·.1)).contains x && !((clssOf p loose).map (·.name)).contains x) = true) : BiOk (mkCx prog w s₁ P mg mb) := by
  have free : ∀ x ∈ freeNames, mg x = none := fun x hx => by
    have := List.all_eq_true.mp hf x hx
    simp only [Bool.and_eq_true, Bool.not_eq_true', List.contains_eq_mem, decide_eq_false_iff_not] at this
    obtain ⟨⟨⟨⟨h1, h2⟩, h3⟩, h4⟩, h5⟩ := this
    exact T.free x h1 h2 h3 h4 h5
  refine ⟨fun id b h => ?_, fun id t h => ?_⟩
  · have hm : id ∈ freeNames := List.mem_append_left _ (mem_lookup h)
    exact ⟨free id hm, (T.builtins id (free_ne id hm)).trans (boot_bi _ (lookup_mem h))⟩
  · have hm : id ∈ freeNames := List.mem_append_right _ (mem_lookup h)
    exact ⟨free id hm, (T.builtins id (free_ne id hm)).trans (boot_ty _ (lookup_mem h))⟩

theorem ints_reps {C : Cx} {g : Gh} {labs : List Addr} {vs : List Value} {ns : List Int} (h : IntsAre vs ns) : VReps C g labs (ns.map .int) vs := by
  induction h with
  | nil => exact VReps.nil
  | cons _ t _ ih => exact VReps.cons ⟨t, rfl⟩ ih

/-- a law at the top -/
theorem run_law (T : Top p loose mean mg mb s₁.heap) (hP : P.fns = (recsOf p).map fnOfRec) (hok : (recsOf p).all recOk = true) (hc : ∀ x av, P.consts.lookup x = some av → ∃ i, av = .int i ∧ valOf p x = some (.int i))
    (hf : (freeNames.all fun x => !startupNames.contains x && !loose.contains x && !((recsOf p).map (·.name)).contains x && !((litsOf p).map (·.1)).contains x && !((clssOf p loose).map (·.name)).contains x) = true)
    {name : Str} {fa sa : Addr} (hmg : mg name = some (.ref fa)) {ns : List Int} {its : List Value} (hso : s₁.heap.get? sa = some { cls := .type "list", data := .seq its.toArray }) (hI : IntsAre its ns) (hlen : ns.length ≤ 63)
    {n k : Nat} (hn : n ≤ 599) {st : St} (hrun : callN P k n ⟨#[]⟩ name [.lst (ns.map .int)] [] = .ok (.bool true) st) {Q E : Value → Shared → Prop}
    (hQ : ∀ s', (∀ b o, s₁.heap.get? b = some o → s'.heap.get? b = some o) → s'.os = s₁.os → s'.gens = s₁.gens → Q (.bool true) s') :
    wpAny (model prog w) callerA (call (.ref fa) [.ref sa]) Q E s₁ := by
  have K := cx_top (prog := prog) (w := w) (P := P) T hP hok hc
  have B := bi_top (prog := prog) (w := w) (P := P) T hf
  have CO := callOk K B (k := k) n
  have hI0 : InvC (mkCx prog w s₁ P mg mb) [] ⟨fun b => s₁.heap.get? b, fun _ => none, [], fun _ => none⟩ [] s₁ := {
    stat := stat_top T hP hok
    sh := ⟨s₁.heap, s₁.toks, rfl⟩
    keeps := fun b o h => h
    apart := fun b r h => nomatch h
    kept := fun b r h => nomatch h
    held := fun b r h => nomatch h
    frs := fun e h => nomatch h
    nof := fun b r h => nomatch h
    lab := rfl
    objs := fun n o h => by simp at h }
  have hl : its.length = ns.length := by
    have := (ints_reps (C := mkCx prog w s₁ P mg mb) (g := fun b => s₁.heap.get? b) (labs := []) hI).length
    simpa using this
  have hv : VReps (mkCx prog w s₁ P mg mb) (fun b => s₁.heap.get? b) [] [.lst (ns.map .int)] [.ref sa] := by
    refine VReps.cons ?_ VReps.nil
    simp only [VRep]
    refine ⟨sa, its.toArray, rfl, ⟨_, hso⟩, ?_, by simpa using ints_reps hI⟩
    have : sizeLine = 16777216 := rfl
    simp only [List.size_toArray, hl, lim, this]; omega
  refine wpAny_call ?_
  have := CO ⟨#[]⟩ name [.lst (ns.map .int)] [] (by show callN P k n _ _ _ _ ≠ _; rw [hrun]; exact fun z => nomatch z) callerA [] _ s₁ [.ref sa] fa hI0 hv (fnA_mk hmg) rfl rfl ⟨by show 1 + claimMargin + n ≤ 900; have : claimMargin = 300 := rfl; omega, by show 4 + 4 * n ≤ 7900; omega⟩
  refine codeAny_mono this fun r s' h => ?_
  have h' : RetP (mkCx prog w s₁ P mg mb) [] ⟨fun b => s₁.heap.get? b, fun _ => none, [], fun _ => none⟩ (callN P k n ⟨#[]⟩ name [.lst (ns.map .int)] []) r s' := h
  rw [hrun] at h'
  obtain ⟨v, W', rfl, l, I', rv⟩ := h'
  simp only [VRep] at rv
  subst rv
  obtain ⟨h₂, tk, e⟩ := I'.sh
  refine hQ s' (fun b o q => I'.keeps b o (l.g b o q)) ?_ ?_
  · rw [e]; rfl
  · rw [e]; rfl
end
end Mine
end
section
set_option autoImplicit false
set_option linter.unusedVariables false
set_option linter.unusedSimpArgs false
namespace Mine
open PySem

theorem ofString_inj {a b : String} (h : Str.ofString a = Str.ofString b) : a = b := by
  rw [Str.ofString_eq_toList, Str.ofString_eq_toList] at h
  have h1 : (a.toList.map Char.toNat) = b.toList.map Char.toNat := by
    have h2 := congrArg (fun (s : Str) => s.cps.toList) h
    simpa only [List.toList_toArray] using h2
  have hj : ∀ x y : Char, x.toNat = y.toNat → x = y := fun x y e => Char.ext (UInt32.toNat.inj e)
  exact String.ext ((List.map_inj_right hj).mp h1)
theorem ofString_eq (a b : String) : (Str.ofString a = Str.ofString b) = (a = b) := propext ⟨ofString_inj, fun h => h ▸ rfl⟩
theorem ofString_beq (a b : String) : (Str.ofString a == Str.ofString b) = (a == b) := by
  by_cases h : a = b
  · subst h; simp
  · rw [beq_eq_false_iff_ne.mpr h, beq_eq_false_iff_ne]
    exact fun h' => h (ofString_inj h')

section base
variable {α β : Type} {loc : Loc} {st : St} {s : S}
noncomputable def bindO (o : Out α) (f : α → D β) : Out β := match o with
  | .ok a s => f a s
  | .exc c s => .exc c s
  | .stuck => .stuck
theorem bindO_ok {a : α} {f : α → D β} : bindO (.ok a s) f = f a s := rfl
theorem bindO_exc {c : Str} {f : α → D β} : bindO (.exc c s) f = .exc c s := rfl
theorem bindO_stuck {f : α → D β} : bindO .stuck f = .stuck := rfl
theorem bnd_at {m : D α} {f : α → D β} : bnd m f ⟨loc, st⟩ = bindO (m ⟨loc, st⟩) f := rfl
theorem pur_at {a : α} : pur a ⟨loc, st⟩ = .ok a ⟨loc, st⟩ := rfl
theorem stk_at : (stk : D α) ⟨loc, st⟩ = .stuck := rfl
theorem opt_some {a : α} : opt (some a) ⟨loc, st⟩ = .ok a ⟨loc, st⟩ := rfl
theorem opt_none : opt (none : Option α) ⟨loc, st⟩ = .stuck := rfl
theorem post_v {d : D AV} : post .v d ⟨loc, st⟩ = d ⟨loc, st⟩ := rfl
theorem post_p {d : D AV} : post .p d ⟨loc, st⟩ = d ⟨loc, st⟩ := rfl
theorem post_i {d : D AV} : post .i d ⟨loc, st⟩ = bindO (d ⟨loc, st⟩) fun c => opt ((itemsV c).map .lst) := rfl
noncomputable def isG : Option NameKind → Bool
  | some .globalImplicit => true
  | _ => false
theorem isGlob_eq {sc : List (Str × NameKind)} {x : Str} : isGlob sc x = (isG (sc.lookup x) && okNm x) := by
  unfold isGlob
  cases h : sc.lookup x with
  | none => rfl
  | some k => cases k <;> rfl
theorem look_nil {x : Str} : List.lookup x ([] : List (Str × NameKind)) = none := rfl
theorem look_cons {x y : String} {k : NameKind} {r : List (Str × NameKind)} : List.lookup (Str.ofString x) ((Str.ofString y, k) :: r) = if x = y then some k else List.lookup (Str.ofString x) r := by
  by_cases h : x = y
  · subst h; simp
  · rw [if_neg h, List.lookup_cons]
    have : (Str.ofString x == Str.ofString y) = false := by rw [ofString_beq]; simpa using h
    rw [this]
theorem getA_nil {x : Str} : getA x ([] : List (Str × α)) = none := rfl
theorem getA_cons {x y : Str} {w : α} {r : List (Str × α)} : getA x ((y, w) :: r) = if y = x then some w else getA x r := rfl
theorem setA_nil {x : Str} {v : α} : setA x v [] = [(x, v)] := rfl
theorem setA_cons {x y : Str} {v w : α} {r : List (Str × α)} : setA x v ((y, w) :: r) = if y = x then (x, v) :: r else (y, w) :: setA x v r := rfl
noncomputable def rdK (x : Str) (loc : Loc) (st : St) : Option LV → Out AV
  | some (.val v) => .ok v ⟨loc, st⟩
  | some (.own v) => .ok v ⟨setA x (.val v) loc, st⟩
  | none => .stuck
theorem rdK_val {x : Str} {v : AV} : rdK x loc st (some (.val v)) = .ok v ⟨loc, st⟩ := rfl
theorem rdK_own {x : Str} {v : AV} : rdK x loc st (some (.own v)) = .ok v ⟨setA x (.val v) loc, st⟩ := rfl
theorem rdK_none {x : Str} : rdK x loc st none = .stuck := rfl
theorem rdLoc_at {x : Str} : rdLoc x ⟨loc, st⟩ = rdK x loc st (getA x loc) := by
  unfold rdLoc rdK
  cases getA x loc with
  | none => rfl
  | some v => cases v <;> rfl
noncomputable def pkK (loc : Loc) (st : St) : Option LV → Out AV
  | some (.val v) => .ok v ⟨loc, st⟩
  | some (.own v) => .ok v ⟨loc, st⟩
  | none => .stuck
theorem pkK_val {v : AV} : pkK loc st (some (.val v)) = .ok v ⟨loc, st⟩ := rfl
theorem pkK_own {v : AV} : pkK loc st (some (.own v)) = .ok v ⟨loc, st⟩ := rfl
theorem pkLoc_at {x : Str} : pkLoc x ⟨loc, st⟩ = pkK loc st (getA x loc) := by
  unfold pkLoc pkK
  cases getA x loc with
  | none => rfl
  | some v => cases v <;> rfl
theorem wrLoc_at {x : Str} {v : LV} : wrLoc x v ⟨loc, st⟩ = .ok () ⟨setA x v loc, st⟩ := rfl
theorem deref_none : deref .none ⟨loc, st⟩ = .ok .none ⟨loc, st⟩ := rfl
theorem deref_bool {b : Bool} : deref (.bool b) ⟨loc, st⟩ = .ok (.bool b) ⟨loc, st⟩ := rfl
theorem deref_int {i : Int} : deref (.int i) ⟨loc, st⟩ = .ok (.int i) ⟨loc, st⟩ := rfl
theorem deref_str {i : Str} : deref (.str i) ⟨loc, st⟩ = .ok (.str i) ⟨loc, st⟩ := rfl
theorem deref_tup {l : List AV} : deref (.tup l) ⟨loc, st⟩ = .ok (.tup l) ⟨loc, st⟩ := rfl
theorem deref_lst {l : List AV} : deref (.lst l) ⟨loc, st⟩ = .ok (.lst l) ⟨loc, st⟩ := rfl
theorem deref_dct {l m : List AV} : deref (.dct l m) ⟨loc, st⟩ = .ok (.dct l m) ⟨loc, st⟩ := rfl
theorem dRet_ok {v : AV} {st' : St} : dRet (.ok v st') ⟨loc, st⟩ = .ok v ⟨loc, st'⟩ := rfl
theorem dRet_exc {c : Str} {st' : St} : dRet (.exc c st') ⟨loc, st⟩ = .exc c ⟨loc, st'⟩ := rfl
theorem dCallF_at {X : Ctx} {c f : Str} {vs : List AV} : dCallF X c f vs ⟨loc, st⟩ = dRet (X.call c f vs st) ⟨loc, st⟩ := rfl
end base

section expr
variable {X : Ctx} {md : Md} {sc : List (Str × NameKind)} {loc : Loc} {st : St} {p q r : Pos}
theorem ev_const {c : Const} {k : Nat} : ev X (.Constant c k p) md sc ⟨loc, st⟩ = post md (dConst c) ⟨loc, st⟩ := by rw [ev]
theorem ev_name {x : Str} : ev X (.Name x p) md sc ⟨loc, st⟩ = post md (dNameM X x md sc) ⟨loc, st⟩ := by rw [ev]
theorem ev_bin {l e : Expr} {op : Operator} : ev X (.BinOp l op e p) md sc ⟨loc, st⟩ = post md (bnd (ev X l .v sc) fun a => bnd (ev X e .v sc) fun b => opt (binV op a b)) ⟨loc, st⟩ := by rw [ev]
theorem ev_un {e : Expr} {op : UnaryOp} : ev X (.UnaryOp op e p) md sc ⟨loc, st⟩ = post md (bnd (ev X e .v sc) fun a => opt (unV op a)) ⟨loc, st⟩ := by rw [ev]
theorem ev_bool {es : List Expr} {op : BoolOp} : ev X (.BoolOp op es p) md sc ⟨loc, st⟩ = post md (boolGo op (evs X es .v sc)) ⟨loc, st⟩ := by rw [ev]
theorem ev_cmp {l e : Expr} {op : CmpOp} : ev X (.Compare l [op] [e] p) md sc ⟨loc, st⟩ = post md (bnd (ev X l .v sc) fun a => bnd (ev X e .p sc) fun b => bnd (deref b) fun b' => opt ((cmpV op a b').map .bool)) ⟨loc, st⟩ := by
  rw [ev]; rfl
theorem ev_tuple {es : List Expr} {c : Nat} : ev X (.Tuple es c p) md sc ⟨loc, st⟩ = post md (bnd (seqD (evs X es .v sc)) fun vs => opt (mkTup vs)) ⟨loc, st⟩ := by rw [ev]
theorem ev_list {es : List Expr} : ev X (.List es p) md sc ⟨loc, st⟩ = post md (bnd (seqD (evs X es .v sc)) fun vs => opt (mkLst vs)) ⟨loc, st⟩ := by rw [ev]
theorem ev_slice {v : Expr} {lo hi : Option Expr} : ev X (.Subscript v (.Slice lo hi none q) p) md sc ⟨loc, st⟩ = post md (withBase X sc v (ev X v .v sc) (bnd (evo X lo sc) fun a => bnd (evo X hi sc) fun b => pur (a, b)) fun c p => slcV c p.1 p.2) ⟨loc, st⟩ := by rw [ev]

/-- not a slice -/
noncomputable def ixOk : Expr → Bool
  | .Slice .. => false
  | _ => true
theorem ev_sub {v i : Expr} (h : ixOk i = true) : ev X (.Subscript v i p) md sc ⟨loc, st⟩ = post md (withBase X sc v (ev X v .v sc) (ev X i .v sc) idxV) ⟨loc, st⟩ := by
  cases i <;> first | (exfalso; simp [ixOk] at h; done) | simp only [ev]
theorem ix_name {x : Str} : ixOk (.Name x p) = true := of_eq_true (eq_true rfl)
theorem ix_const {c : Const} {k : Nat} : ixOk (.Constant c k p) = true := of_eq_true (eq_true rfl)
theorem ix_bin {l e : Expr} {op : Operator} : ixOk (.BinOp l op e p) = true := of_eq_true (eq_true rfl)
theorem ix_un {e : Expr} {op : UnaryOp} : ixOk (.UnaryOp op e p) = true := of_eq_true (eq_true rfl)
theorem ix_call {f : Expr} {as : List Expr} {ks : List Keyword} : ixOk (.Call f as ks p) = true := of_eq_true (eq_true rfl)
theorem ix_sub {v i : Expr} : ixOk (.Subscript v i p) = true := of_eq_true (eq_true rfl)
theorem ix_attr {v : Expr} {i : Str} : ixOk (.Attribute v i p) = true := of_eq_true (eq_true rfl)
noncomputable def notNm : Expr → Bool
  | .Name .. => false
  | _ => true
theorem nn_call {f : Expr} {as : List Expr} {ks : List Keyword} : notNm (.Call f as ks p) = true := of_eq_true (eq_true rfl)
theorem nn_sub {v i : Expr} : notNm (.Subscript v i p) = true := of_eq_true (eq_true rfl)
theorem nn_attr {v : Expr} {i : Str} : notNm (.Attribute v i p) = true := of_eq_true (eq_true rfl)
theorem nn_list {es : List Expr} : notNm (.List es p) = true := of_eq_true (eq_true rfl)
theorem nn_tup {es : List Expr} {k : Nat} : notNm (.Tuple es k p) = true := of_eq_true (eq_true rfl)
theorem nn_const {c : Const} {k : Nat} : notNm (.Constant c k p) = true := of_eq_true (eq_true rfl)
theorem withBase_name {α : Type} {x : Str} {dv : D AV} {ix : D α} {k : AV → α → Option AV} : withBase X sc (.Name x p) dv ix k ⟨loc, st⟩ = bindO (dPeek X x sc ⟨loc, st⟩) fun _ => bnd ix fun i => bnd (dPeek X x sc) fun c => bnd (deref c) fun c' => opt (k c' i) := rfl
theorem withBase_val {α : Type} {v : Expr} {dv : D AV} {ix : D α} {k : AV → α → Option AV} (h : notNm v = true) : withBase X sc v dv ix k ⟨loc, st⟩ = bindO (dv ⟨loc, st⟩) fun c => bnd ix fun i => bnd (deref c) fun c' => opt (k c' i) := by
  cases v <;> first | rfl | exact nomatch h
theorem evo_none : evo X none sc ⟨loc, st⟩ = .ok .none ⟨loc, st⟩ := by rw [evo]; rfl
theorem evo_some {e : Expr} : evo X (some e) sc ⟨loc, st⟩ = ev X e .v sc ⟨loc, st⟩ := by rw [evo]
theorem evs_nil : evs X [] md sc = [] := by rw [evs]
theorem evs_cons {e : Expr} {r : List Expr} : evs X (e :: r) md sc = ev X e md sc :: evs X r md sc := by rw [evs]
theorem seqD_nil : seqD [] ⟨loc, st⟩ = .ok [] ⟨loc, st⟩ := rfl
theorem seqD_cons {m : D AV} {r : List (D AV)} : seqD (m :: r) ⟨loc, st⟩ = bindO (m ⟨loc, st⟩) fun v => bnd (seqD r) fun vs => pur (v :: vs) := rfl
theorem boolGo_one {op : BoolOp} {m : D AV} : boolGo op [m] ⟨loc, st⟩ = m ⟨loc, st⟩ := by cases op <;> rfl
theorem boolGo_and {m n : D AV} {r : List (D AV)} : boolGo .And (m :: n :: r) ⟨loc, st⟩ = bindO (m ⟨loc, st⟩) fun v => bnd (opt (truthV v)) fun t => if t then boolGo .And (n :: r) else pur v := by
  show bnd m _ _ = _
  rw [bnd_at]; congr 1; funext v; congr 1; funext t; cases t <;> rfl
theorem boolGo_or {m n : D AV} {r : List (D AV)} : boolGo .Or (m :: n :: r) ⟨loc, st⟩ = bindO (m ⟨loc, st⟩) fun v => bnd (opt (truthV v)) fun t => if t then pur v else boolGo .Or (n :: r) := by
  show bnd m _ _ = _
  rw [bnd_at]; congr 1; funext v; congr 1; funext t; cases t <;> rfl
theorem ev_fn {id : Str} {args : List Expr} (h : calleeOf X id sc = .fn) : ev X (.Call (.Name id p) args [] q) md sc ⟨loc, st⟩ = post md (bnd (seqD (evs X args .v sc)) fun vs => dCallF X ⟨#[]⟩ id vs) ⟨loc, st⟩ := by
  rw [ev]; simp only [h]; rfl
theorem ev_len {id : Str} {e : Expr} (h : calleeOf X id sc = .bi .len) : ev X (.Call (.Name id p) [e] [] q) md sc ⟨loc, st⟩ = post md (bnd (ev X e .p sc) biLen) ⟨loc, st⟩ := by
  rw [ev]; simp only [h, evs_cons, evs_nil]; rfl
theorem ev_isi {id t : Str} {t' : String} {e : Expr} (h : calleeOf X id sc = .bi .isinstance) (h2 : isiTy X t = some t') (h1 : isGlob sc t = true) : ev X (.Call (.Name id p) [e, .Name t r] [] q) md sc ⟨loc, st⟩ = post md (bnd (ev X e .p sc) fun v => opt ((tyNm v).map fun a => .bool (isiT a t'))) ⟨loc, st⟩ := by
  rw [ev]; simp only [h, evs_cons, evs_nil, secondName, h2, h1]; rfl
theorem ev_range {id : Str} {args : List Expr} (h : calleeOf X id sc = .bi .range) : ev X (.Call (.Name id p) args [] q) .i sc ⟨loc, st⟩ = bindO (seqD (evs X args .v sc) ⟨loc, st⟩) fun vs => opt (itV .range vs) := by
  rw [ev]; simp only [h]; rfl
theorem ev_blist {id : Str} {args : List Expr} (h : calleeOf X id sc = .bi .list) : ev X (.Call (.Name id p) args [] q) md sc ⟨loc, st⟩ = post md (bnd (seqD (evs X args .v sc)) fun vs => opt (biV .list vs)) ⟨loc, st⟩ := by
  rw [ev]; simp only [h]; rfl
theorem ev_btuple {id : Str} {args : List Expr} (h : calleeOf X id sc = .bi .tuple) : ev X (.Call (.Name id p) args [] q) md sc ⟨loc, st⟩ = post md (bnd (seqD (evs X args .v sc)) fun vs => opt (biV .tuple vs)) ⟨loc, st⟩ := by
  rw [ev]; simp only [h]; rfl
theorem ev_join {e : Expr} {k : Nat} : ev X (.Call (.Attribute (.Constant (.str (Str.ofString "")) k r) (Str.ofString "join") p) [e] [] q) md sc ⟨loc, st⟩ = post md (bnd (seqD (evs X [e] .v sc)) dJoin) ⟨loc, st⟩ := by
  rw [ev]
  have h1 : (Str.ofString "join" == Str.ofString "join") = true := by simp
  have h2 : isEmptyStr (.Constant (.str (Str.ofString "")) k r) = true := of_eq_true (eq_true rfl)
  simp only [h1, h2]; rfl
noncomputable def compK (sc' : List (Str × NameKind)) (tgt : Expr) (elt : D AV) (tests : List (D AV)) : AV → D AV
  | .lst l => if l.length ≤ sizeLine then bnd (dComp sc' tgt elt tests l) fun vs => opt (mkLst vs) else stk
  | _ => stk
theorem ev_comp {elt iter tgt : Expr} {ifs : List Expr} {scope : Scope} : ev X (.ListComp elt [⟨tgt, iter, ifs, 0⟩] scope p) md sc ⟨loc, st⟩ = if tgtLoc scope.names tgt && scOk sc scope.names && scope.kind == .function then post md (bnd (ev X iter .i sc) (compK scope.names tgt (ev X elt .v scope.names) (evs X ifs .v scope.names))) ⟨loc, st⟩ else .stuck := by
  rw [ev]
  have e : (bnd (ev X iter .i sc) (compK scope.names tgt (ev X elt .v scope.names) (evs X ifs .v scope.names))) = (bnd (ev X iter .i sc) fun its => match its with
        | .lst l => if l.length ≤ sizeLine then bnd (dComp scope.names tgt (ev X elt .v scope.names) (evs X ifs .v scope.names) l) fun vs => opt (mkLst vs) else stk
        | _ => stk) := by
    congr 1
  rw [e]
  cases tgtLoc scope.names tgt <;> cases scOk sc scope.names <;> cases h : (scope.kind == .function) <;> simp [h, stk_at, bne] <;> rfl
theorem compK_at {sc' : List (Str × NameKind)} {tgt : Expr} {elt : D AV} {tests : List (D AV)} {l : List AV} (h : l.length ≤ sizeLine) : compK sc' tgt elt tests (.lst l) ⟨loc, st⟩ = bindO (dComp sc' tgt elt tests l ⟨loc, st⟩) fun vs => opt (mkLst vs) := by
  show (if l.length ≤ sizeLine then _ else stk) _ = _
  rw [if_pos h]; rfl
/-- a comprehension without tests that leaves the state -/
theorem dComp_map {sc' : List (Str × NameKind)} {x : Str} {elt : D AV} {items : List AV} {g : AV → AV}
    (h : ∀ v ∈ items, ∃ l', elt ⟨setA x (.val v) (capOf (capNames sc') loc), st⟩ = .ok (g v) ⟨l', st⟩) :
    dComp sc' (.Name x p) elt [] items ⟨loc, st⟩ = .ok (items.map g) ⟨letGoN (capNames sc') loc, st⟩ := by
  have hg : ∀ its : List AV, (∀ v ∈ its, ∃ l', elt ⟨setA x (.val v) (capOf (capNames sc') loc), st⟩ = .ok (g v) ⟨l', st⟩) → ∃ s', compGo (.Name x p) elt [] (capOf (capNames sc') loc) its st = .ok (its.map g) s' ∧ s'.st = st := by
    intro its
    induction its with
    | nil => intro _; exact ⟨_, rfl, rfl⟩
    | cons v r ih =>
      intro hh
      obtain ⟨s', e1, e2⟩ := ih fun w hw => hh w (List.mem_cons_of_mem _ hw)
      refine ⟨s', ?_, e2⟩
      rw [compGo]
      obtain ⟨l', h1⟩ := hh v (List.mem_cons_self ..)
      show bindO (elt ⟨setA x (.val v) (capOf (capNames sc') loc), st⟩) _ = _
      rw [h1]
      show consO (g v) (compGo _ _ _ _ r st) = _
      rw [e1]; rfl
  obtain ⟨s', e1, e2⟩ := hg items h
  unfold dComp
  simp only [e1, e2]
theorem biLen_lst {l : List AV} : biLen (.lst l) ⟨loc, st⟩ = .ok (.int l.length) ⟨loc, st⟩ := rfl
theorem biLen_tup {l : List AV} : biLen (.tup l) ⟨loc, st⟩ = .ok (.int l.length) ⟨loc, st⟩ := rfl
theorem biLen_str {l : Str} : biLen (.str l) ⟨loc, st⟩ = .ok (.int l.length) ⟨loc, st⟩ := rfl
theorem biLen_dct {l m : List AV} : biLen (.dct l m) ⟨loc, st⟩ = .ok (.int l.length) ⟨loc, st⟩ := rfl
theorem exs_nil : exs X [] sc ⟨loc, st⟩ = .ok .next ⟨loc, st⟩ := by rw [exs]; rfl
noncomputable def thenK (o : Out Fl) (k : D Fl) : Out Fl := bindO o fun f => match f with | .next => k | f => pur f
theorem exs_cons {t : Stmt} {r : List Stmt} : exs X (t :: r) sc ⟨loc, st⟩ = thenK (ex X t sc ⟨loc, st⟩) (exs X r sc) := by rw [exs]; rfl
theorem thenK_next {s : S} {k : D Fl} : thenK (.ok .next s) k = k s := rfl
theorem thenK_ret {s : S} {k : D Fl} {v : AV} : thenK (.ok (.ret v) s) k = .ok (.ret v) s := rfl
theorem thenK_exc {s : S} {k : D Fl} {c : Str} : thenK (.exc c s) k = .exc c s := rfl
theorem thenK_brk {s : S} {k : D Fl} : thenK (.ok .brk s) k = .ok .brk s := rfl
theorem thenK_cont {s : S} {k : D Fl} : thenK (.ok .cont s) k = .ok .cont s := rfl
theorem ex_ret {v : Option Expr} : ex X (.Return v p) sc ⟨loc, st⟩ = bindO (evo X v sc ⟨loc, st⟩) fun a => pur (.ret a) := by rw [ex]; rfl
theorem ex_pass : ex X (.Pass p) sc ⟨loc, st⟩ = .ok .next ⟨loc, st⟩ := by rw [ex]; rfl
theorem ex_if {t : Expr} {a b : List Stmt} : ex X (.If t a b p) sc ⟨loc, st⟩ = bindO (ev X t .v sc ⟨loc, st⟩) fun v => bnd (opt (truthV v)) fun c => if c then exs X a sc else exs X b sc := by rw [ex]; rfl
theorem ex_asg {x : Str} {v : Expr} : ex X (.Assign [.Name x q] v p) sc ⟨loc, st⟩ = if isSt sc x then bindO (ev X v .v sc ⟨loc, st⟩) fun a => bnd (wrLoc x (lvOf (makes v) a)) fun _ => pur .next else .stuck := by
  rw [ex]; cases isSt sc x <;> rfl
theorem calleeOf_fn' {id : Str} (h : isGlob sc id = true) (h2 : X.fn id = true) : calleeOf X id sc = .fn := by
  unfold calleeOf; rw [h, h2]; rfl
theorem calleeOf_bi' {id : Str} {b : Bi} (h : isGlob sc id = true) (h2 : X.fn id = false) (h3 : X.cls id = false) (h4 : X.xcls id = false) (h5 : biNames.lookup id = some b) : calleeOf X id sc = .bi b := by
  unfold calleeOf; rw [h, h2, h3, h4, h5]; rfl
end expr
theorem retOf_ret {v : AV} {loc : Loc} {st : St} : retOf (.ok (.ret v) ⟨loc, st⟩) = .ok v st := rfl
theorem call_eq {P : Pg} {k n : Nat} {c f : Str} {vs : List AV} {st : St} {fn : Fn} {loc : Loc} (h : P.find c f = some fn) (h2 : (fn.params.length == vs.length) = true) (h3 : ((fn.params.zip vs).map fun p => (p.1, LV.val p.2)) = loc) :
    callN P k (n + 1) c f vs st = retOf (exs (ctxOf P k (callN P k n) (callN P k (n - 4))) fn.body fn.names ⟨loc, st⟩) := by
  rw [callN, h]
  show runFn _ fn vs st = _
  unfold runFn
  rw [if_pos h2, h3]

noncomputable def isLo : Option NameKind → Bool
  | some .local => true
  | _ => false
noncomputable def isFr : Option NameKind → Bool
  | some .free => true
  | _ => false
noncomputable def isCe : Option NameKind → Bool
  | some .cell => true
  | _ => false
theorem beq_lo (o : Option NameKind) : (o == some .local) = isLo o := by
  cases o with
  | none => rfl
  | some k => cases k <;> rfl
theorem beq_fr (o : Option NameKind) : (o == some .free) = isFr o := by
  cases o with
  | none => rfl
  | some k => cases k <;> rfl
theorem beq_ce (o : Option NameKind) : (o == some .cell) = isCe o := by
  cases o with
  | none => rfl
  | some k => cases k <;> rfl
section comp
variable {sc sc' r : List (Str × NameKind)} {x : Str} {p : Pos} {k : NameKind}
theorem tgtLoc_name : tgtLoc sc (.Name x p) = (isLo (sc.lookup x) && okNm x) := by simp only [tgtLoc, beq_lo]
theorem nmLoc_name : nmLoc sc (.Name x p) = (isLo (sc.lookup x) && okNm x) := by simp only [nmLoc, beq_lo]
theorem tgtLoc_tup {ts : List Expr} {n : Nat} : tgtLoc sc (.Tuple ts n p) = ts.all (nmLoc sc) := rfl
noncomputable def scG (sc sc' : List (Str × NameKind)) : List (Str × NameKind) → Bool
  | [] => true
  | (x, k) :: r => (match k with
    | .cell => false
    | .local => isLo (sc'.lookup x)
    | .free => (isCe (sc.lookup x) || isFr (sc.lookup x)) && isFr (sc'.lookup x)
    | _ => true) && scG sc sc' r
theorem scOk_eq : scOk sc sc' = scG sc sc' sc' := by
  have h : ∀ l, (l.all fun p : Str × NameKind => match p.2 with
    | .cell => false
    | .local => sc'.lookup p.1 == some .local
    | .free => (sc.lookup p.1 == some .cell || sc.lookup p.1 == some .free) && sc'.lookup p.1 == some .free
    | _ => true) = scG sc sc' l := by
    intro l
    induction l with
    | nil => rfl
    | cons a t ih => obtain ⟨y, k⟩ := a; rw [List.all_cons, ih]; cases k <;> simp only [scG, beq_lo, beq_fr, beq_ce]
  exact h sc'
theorem scG_nil : scG sc sc' [] = true := rfl
theorem scG_cell : scG sc sc' ((x, .cell) :: r) = false := rfl
theorem scG_local : scG sc sc' ((x, .local) :: r) = (isLo (sc'.lookup x) && scG sc sc' r) := rfl
theorem scG_free : scG sc sc' ((x, .free) :: r) = (((isCe (sc.lookup x) || isFr (sc.lookup x)) && isFr (sc'.lookup x)) && scG sc sc' r) := rfl
theorem scG_gi : scG sc sc' ((x, .globalImplicit) :: r) = scG sc sc' r := rfl
theorem scG_ge : scG sc sc' ((x, .globalExplicit) :: r) = scG sc sc' r := rfl
theorem kind_fn : ((ScopeKind.function : ScopeKind) == .function) = true := of_eq_true (eq_true rfl)
theorem cap_nil : capNames [] = [] := rfl
theorem cap_free : capNames ((x, .free) :: r) = x :: capNames r := rfl
theorem cap_local : capNames ((x, .local) :: r) = capNames r := rfl
theorem cap_cell : capNames ((x, .cell) :: r) = capNames r := rfl
theorem cap_gi : capNames ((x, .globalImplicit) :: r) = capNames r := rfl
theorem cap_ge : capNames ((x, .globalExplicit) :: r) = capNames r := rfl
noncomputable def capK (x : Str) (l : Loc) : Option LV → Loc
  | some (.val v) => (x, .val v) :: l
  | some (.own v) => (x, .val v) :: l
  | none => l
theorem capK_val {l : Loc} {v : AV} : capK x l (some (.val v)) = (x, .val v) :: l := rfl
theorem capK_own {l : Loc} {v : AV} : capK x l (some (.own v)) = (x, .val v) :: l := rfl
theorem capK_none {l : Loc} : capK x l none = l := rfl
theorem capOf_nil {l : Loc} : capOf [] l = [] := rfl
theorem capOf_cons {xs : List Str} {l : Loc} : capOf (x :: xs) l = capK x (capOf xs l) (getA x l) := by
  unfold capOf
  rw [List.filterMap_cons]
  cases getA x l with
  | none => rfl
  | some v => cases v <;> rfl
noncomputable def goK (x : Str) (l : Loc) : Option LV → Loc
  | some (.own v) => setA x (.val v) l
  | _ => l
theorem goK_val {l : Loc} {v : AV} : goK x l (some (.val v)) = l := rfl
theorem goK_own {l : Loc} {v : AV} : goK x l (some (.own v)) = setA x (.val v) l := rfl
theorem goK_none {l : Loc} : goK x l none = l := rfl
theorem letGo_nil {l : Loc} : letGoN [] l = l := rfl
theorem letGo_cons {xs : List Str} {l : Loc} : letGoN (x :: xs) l = letGoN xs (goK x l (getA x l)) := by
  rw [letGoN]
  cases getA x l with
  | none => rfl
  | some v => cases v <;> rfl
end comp

theorem binV_add {a b : Int} : binV .Add (.int a) (.int b) = some (.int (a + b)) := rfl
theorem binV_sub {a b : Int} : binV .Sub (.int a) (.int b) = some (.int (a - b)) := rfl
theorem smallI_of {y : Int} (h1 : -9223372036854775808 < y) (h2 : y < 9223372036854775808) : smallI y = true := by
  unfold smallI; rw [decide_eq_true_eq]; omega
theorem binV_fd {a y : Int} (h1 : 0 < y) (h2 : y < 9223372036854775808) : binV .FloorDiv (.int a) (.int y) = some (.int (a / y)) := by
  show (if y = 0 ∨ smallI y = false then none else some (AV.int (Int.fdiv a y))) = _
  rw [if_neg, Int.fdiv_eq_ediv_of_nonneg a (Int.le_of_lt h1)]
  rw [smallI_of (by omega) h2]
  rintro (h | h)
  · omega
  · cases h
theorem binV_mod {a y : Int} (h1 : 0 < y) (h2 : y < 9223372036854775808) : binV .Mod (.int a) (.int y) = some (.int (a % y)) := by
  show (if y = 0 ∨ smallI y = false then none else some (AV.int (Int.fmod a y))) = _
  rw [if_neg, Int.fmod_eq_emod_of_nonneg a (Int.le_of_lt h1)]
  rw [smallI_of (by omega) h2]
  rintro (h | h)
  · omega
  · cases h
theorem binV_mulr {a y : Int} (h : smallI y = true) : binV .Mult (.int a) (.int y) = some (.int (a * y)) := by
  show (if smallI a || smallI y then some (AV.int (a * y)) else none) = _
  rw [h, Bool.or_true]; rfl
theorem itV_range {n : Int} (h : okR n = true) : itV .range [.int n] = some (.lst (rangeL 0 n)) := by
  show (if okR n then _ else none) = _
  rw [h]; rfl
theorem rangeL_zero (n : Int) : rangeL 0 n = (List.range n.toNat).map fun (k : Nat) => .int (k : Int) := by
  unfold rangeL
  simp
theorem mkTup_le {l : List AV} (h : l.length ≤ sizeLine) : mkTup l = some (.tup l) := if_pos h
theorem mkLst_le {l : List AV} (h : l.length ≤ sizeLine) : mkLst l = some (.lst l) := if_pos h
theorem mkTup_0 : mkTup [] = some (.tup []) := rfl
theorem mkTup_1 {a : AV} : mkTup [a] = some (.tup [a]) := rfl
theorem mkTup_2 {a b : AV} : mkTup [a, b] = some (.tup [a, b]) := rfl
theorem mkTup_3 {a b c : AV} : mkTup [a, b, c] = some (.tup [a, b, c]) := rfl
theorem mkTup_4 {a b c d : AV} : mkTup [a, b, c, d] = some (.tup [a, b, c, d]) := rfl
theorem mkTup_5 {a b c d e : AV} : mkTup [a, b, c, d, e] = some (.tup [a, b, c, d, e]) := rfl
theorem mkLst_0 : mkLst [] = some (.lst []) := rfl
theorem mkLst_1 {a : AV} : mkLst [a] = some (.lst [a]) := rfl
theorem mkLst_2 {a b : AV} : mkLst [a, b] = some (.lst [a, b]) := rfl
theorem mkLst_3 {a b c : AV} : mkLst [a, b, c] = some (.lst [a, b, c]) := rfl
theorem mkLst_4 {a b c d : AV} : mkLst [a, b, c, d] = some (.lst [a, b, c, d]) := rfl
theorem eqV_int {a b : Int} : eqV (.int a) (.int b) = some (decide (a = b)) := by
  show some (PyData.eqv (.int a) (.int b)) = _
  rw [PyData.eqv, Bool.beq_eq_decide_eq]
theorem eqV_str {a b : Str} : eqV (.str a) (.str b) = some (a == b) := by
  show some (PyData.eqv (.str a) (.str b)) = _
  rw [PyData.eqv]
mutual
theorem eqv_toD : ∀ v : AV, dataV v = true → PyData.eqv (toD v) (toD v) = true
  | .none, _ => rfl
  | .bool b, _ => by simp [toD, PyData.eqv]
  | .int b, _ => by simp [toD, PyData.eqv]
  | .str b, _ => by simp [toD, PyData.eqv]
  | .tup l, h => by rw [toD, PyData.eqv]; rw [dataV] at h; exact eqv_toDs l h
  | .lst l, h => by rw [toD, PyData.eqv]; rw [dataV] at h; exact eqv_toDs l h
  | .dct _ _, h => nomatch h
  | .obj _ _, h => nomatch h
  | .cel _, h => nomatch h
  | .exc _, h => nomatch h
  | .sett _, h => nomatch h
theorem eqv_toDs : ∀ l : List AV, dataVs l = true → PyData.eqvAll (toDs l) (toDs l) = true
  | [], _ => rfl
  | x :: r, h => by
    rw [dataVs, Bool.and_eq_true] at h
    rw [toDs, PyData.eqvAll, eqv_toD x h.1, eqv_toDs r h.2]; rfl
end
theorem eqV_self {v : AV} (h : dataV v = true) (h2 : depthV v ≤ 64) : eqV v v = some true := by
  unfold eqV
  rw [h, eqv_toD v h]
  simp [h2]
theorem slcV_to {l : List AV} {k : Int} (h : 0 ≤ k) : slcV (.lst l) .none (.int k) = some (.lst (l.take k.toNat)) := by
  show (sliceL l .none (.int k)).map AV.lst = _
  unfold sliceL
  have e : (clipAt l.length k) = min k.toNat l.length := by unfold clipAt; rw [if_neg (by omega)]; omega
  simp only [partOf, Option.elim, e, List.drop_zero, Nat.sub_zero, Option.map_some]
  rw [← List.take_take, List.take_length]
theorem slcV_tup1 {x : AV} {l : List AV} : slcV (.tup (x :: l)) (.int 1) .none = some (.tup l) := by
  show (if 1 ≤ (1 : Int) ∧ (1 : Int) ≤ ((x :: l).length : Nat) then _ else _) = _
  rw [if_pos ⟨by omega, by simp only [List.length_cons]; omega⟩]; rfl
theorem at_0 {x : AV} {l : List AV} : at? (x :: l) 0 = some x := rfl
theorem at_1 {x y : AV} {l : List AV} : at? (x :: y :: l) 1 = some y := rfl
theorem at_2 {x y z : AV} {l : List AV} : at? (x :: y :: z :: l) 2 = some z := rfl
theorem at_3 {x y z w : AV} {l : List AV} : at? (x :: y :: z :: w :: l) 3 = some w := rfl
theorem at_4 {x y z w v : AV} {l : List AV} : at? (x :: y :: z :: w :: v :: l) 4 = some v := rfl
theorem at_5 {a x y z w v : AV} {l : List AV} : at? (a :: x :: y :: z :: w :: v :: l) 5 = some v := rfl
theorem idxV_lst {l : List AV} {i : Int} : idxV (.lst l) (.int i) = at? l i := rfl
theorem idxV_tup {l : List AV} {i : Int} : idxV (.tup l) (.int i) = at? l i := rfl
theorem isiT_ll : isiT "list" "list" = true := rfl
theorem catS_chars {α : Type} (f : α → Nat) (l : List α) : catS (l.map fun x => ⟨#[f x]⟩) = ⟨(l.map f).toArray⟩ := by
  induction l with
  | nil => rfl
  | cons a t ih =>
    rw [List.map_cons, catS, ih]
    show (⟨_ ++ _⟩ : Str) = _
    simp
theorem strsOf_map {α : Type} (f : α → Str) (l : List α) : strsOf (l.map fun x => .str (f x)) = some (l.map f) := by
  induction l with
  | nil => rfl
  | cons a t ih => rw [List.map_cons, strsOf, ih]; rfl
theorem mkSt_le {s : Str} (h : s.length ≤ sizeLine) : mkSt s = some (.str s) := if_pos h
theorem dJoin_at {l : List AV} {ss : List Str} {loc : Loc} {st : St} (h : strsOf l = some ss) (h2 : (catS ss).length ≤ sizeLine) : dJoin [.lst l] ⟨loc, st⟩ = .ok (.str (catS ss)) ⟨loc, st⟩ := by
  show opt ((strsOf l).bind fun ss => mkSt (catS ss)) _ = _
  rw [h]
  show opt (mkSt (catS ss)) _ = _
  rw [mkSt_le h2]; rfl
/-- the letter of an alphabet -/
theorem alpha_at {i : Int} (h : 0 ≤ i) (h2 : i < 26) : idxV (.str (Str.ofString "abcdefghijklmnopqrstuvwxyz")) (.int i) = some (.str ⟨#[97 + i.toNat]⟩) := by
  show (if 0 ≤ i then ((Str.ofString "abcdefghijklmnopqrstuvwxyz").cps[i.toNat]?).map fun c => AV.str ⟨#[c]⟩ else none) = _
  rw [if_pos h]
  have hk : ∀ k < 26, (Str.ofString "abcdefghijklmnopqrstuvwxyz").cps[k]? = some (97 + k) := by decide +kernel
  rw [hk i.toNat (by omega)]; rfl
/-- the name that a cell makes -/
noncomputable def nameL (c : Int) : List Nat := (List.range (1 + c % 8).toNat).map fun (k : Nat) => 97 + ((c / 8 + (k : Int) * (1 + c / 208 % 25)) % 26).toNat
noncomputable def nameS (c : Int) : Str := ⟨(nameL c).toArray⟩
end Mine
end
section
set_option autoImplicit false
set_option linter.unusedVariables false
set_option linter.unusedSimpArgs false
namespace Mine
open PySem
noncomputable def P02 : Pg := pgOf PySem.Challenge.pw_uf030011_02.main.body
section
variable {sc : List (Str × NameKind)} {id : Str} {e : Expr} {p q r : Pos} {md : Md} {loc : Loc} {st : St} {k : Nat} {c c3 : Str → Str → List AV → St → Ret}
theorem co_within : isGlob sc (Str.ofString "within") = true → calleeOf (ctxOf P02 k c c3) (Str.ofString "within") sc = .fn := fun h => calleeOf_fn' h rfl
theorem co__law_cell_at : isGlob sc (Str.ofString "_law_cell_at") = true → calleeOf (ctxOf P02 k c c3) (Str.ofString "_law_cell_at") sc = .fn := fun h => calleeOf_fn' h rfl
theorem co__law_name : isGlob sc (Str.ofString "_law_name") = true → calleeOf (ctxOf P02 k c c3) (Str.ofString "_law_name") sc = .fn := fun h => calleeOf_fn' h rfl
theorem co__law_part : isGlob sc (Str.ofString "_law_part") = true → calleeOf (ctxOf P02 k c c3) (Str.ofString "_law_part") sc = .fn := fun h => calleeOf_fn' h rfl
theorem co_len : isGlob sc (Str.ofString "len") = true → calleeOf (ctxOf P02 k c c3) (Str.ofString "len") sc = .bi .len := fun h => calleeOf_bi' h rfl rfl rfl rfl
theorem co_list : isGlob sc (Str.ofString "list") = true → calleeOf (ctxOf P02 k c c3) (Str.ofString "list") sc = .bi .list := fun h => calleeOf_bi' h rfl rfl rfl rfl
theorem co_tuple : isGlob sc (Str.ofString "tuple") = true → calleeOf (ctxOf P02 k c c3) (Str.ofString "tuple") sc = .bi .tuple := fun h => calleeOf_bi' h rfl rfl rfl rfl
theorem co_isinstance : isGlob sc (Str.ofString "isinstance") = true → calleeOf (ctxOf P02 k c c3) (Str.ofString "isinstance") sc = .bi .isinstance := fun h => calleeOf_bi' h rfl rfl rfl rfl
theorem co_range : isGlob sc (Str.ofString "range") = true → calleeOf (ctxOf P02 k c c3) (Str.ofString "range") sc = .bi .range := fun h => calleeOf_bi' h rfl rfl rfl rfl
theorem ei_list : isGlob sc (Str.ofString "list") = true → calleeOf (ctxOf P02 k c c3) id sc = .bi .isinstance → ev (ctxOf P02 k c c3) (.Call (.Name id p) [e, .Name (Str.ofString "list") r] [] q) md sc ⟨loc, st⟩ = post md (bnd (ev (ctxOf P02 k c c3) e .p sc) fun v => opt ((tyNm v).map fun a => .bool (isiT a "list"))) ⟨loc, st⟩ := fun h1 h2 => ev_isi h2 rfl h1
theorem ei_tuple : isGlob sc (Str.ofString "tuple") = true → calleeOf (ctxOf P02 k c c3) id sc = .bi .isinstance → ev (ctxOf P02 k c c3) (.Call (.Name id p) [e, .Name (Str.ofString "tuple") r] [] q) md sc ⟨loc, st⟩ = post md (bnd (ev (ctxOf P02 k c c3) e .p sc) fun v => opt ((tyNm v).map fun a => .bool (isiT a "tuple"))) ⟨loc, st⟩ := fun h1 h2 => ev_isi h2 rfl h1
theorem ccall : (ctxOf P02 k c c3).call = c := rfl
theorem sl_0 : strCheck (Str.ofString "") = pur (.str (Str.ofString "")) := if_pos (by decide +kernel)
theorem sl_1 : strCheck (Str.ofString "abcdefghijklmnopqrstuvwxyz") = pur (.str (Str.ofString "abcdefghijklmnopqrstuvwxyz")) := if_pos (by decide +kernel)
theorem sl_2 : strCheck (Str.ofString "below") = pur (.str (Str.ofString "below")) := if_pos (by decide +kernel)
theorem sl_3 : strCheck (Str.ofString "call") = pur (.str (Str.ofString "call")) := if_pos (by decide +kernel)
theorem sl_5 : strCheck (Str.ofString "choose") = pur (.str (Str.ofString "choose")) := if_pos (by decide +kernel)
theorem sl_7 : strCheck (Str.ofString "less") = pur (.str (Str.ofString "less")) := if_pos (by decide +kernel)
theorem sl_8 : strCheck (Str.ofString "let") = pur (.str (Str.ofString "let")) := if_pos (by decide +kernel)
theorem sl_9 : strCheck (Str.ofString "name") = pur (.str (Str.ofString "name")) := if_pos (by decide +kernel)
theorem sl_10 : strCheck (Str.ofString "num") = pur (.str (Str.ofString "num")) := if_pos (by decide +kernel)
theorem sl_11 : strCheck (Str.ofString "part") = pur (.str (Str.ofString "part")) := if_pos (by decide +kernel)
theorem sl_12 : strCheck (Str.ofString "sum") = pur (.str (Str.ofString "sum")) := if_pos (by decide +kernel)
theorem sl_13 : strCheck (Str.ofString "times") = pur (.str (Str.ofString "times")) := if_pos (by decide +kernel)
end
theorem cellat (n : Nat) (st : St) (ns : List Int) (k : Nat) : callN P02 0 (n + 1) ⟨#[]⟩ "_law_cell_at" [.lst (ns.map .int), .int k] st = .ok (.int (ns.getD k 0)) st := by
  refine (call_eq (loc := [("_law_script", .val (.lst (ns.map .int))), ("_law_k", .val (.int k))]) rfl rfl rfl).trans ?_
  dsimp only
  by_cases h : k < ns.length
  · have h1 : decide ((k : Int) < (ns.length : Int)) = true := by simpa using h
    have h2 : at? (ns.map AV.int) (k : Int) = some (.int (ns.getD k 0)) := by simp [at?, h]
    simp only [ev_const, ev_name, ev_bin, ev_un, ev_bool, ev_cmp, ev_tuple, ev_list, ev_slice, ev_sub, ix_name, ix_const, ix_bin, ix_un, ix_call, ix_sub, ix_attr, nn_call, nn_sub, nn_attr, nn_list, nn_tup, nn_const, withBase_name, withBase_val, evo_none, evo_some, evs_nil, evs_cons, seqD_nil, seqD_cons, boolGo_one, boolGo_and, boolGo_or, ev_fn, ev_len, ev_range, ev_blist, ev_btuple, biLen_lst, biLen_tup, biLen_str, biLen_dct, exs_nil, exs_cons, thenK_next, thenK_ret, thenK_exc, thenK_brk, thenK_cont, ex_pass, ex_ret, ex_if, ex_asg, bindO_ok, bindO_exc, bindO_stuck, bnd_at, pur_at, stk_at, opt_some, opt_none, post_v, post_p, post_i, dConst, dNameM, dName, dPeek, isLoc, isGlob_eq, isG, isLocK, okNm, isSt, look_nil, look_cons, getA_nil, getA_cons, setA_nil, setA_cons, rdLoc_at, rdK_val, rdK_own, rdK_none, pkLoc_at, pkK_val, pkK_own, wrLoc_at, deref_none, deref_bool, deref_int, deref_str, deref_tup, deref_lst, deref_dct, dRet_ok, dRet_exc, dCallF_at, ofString_eq, ofString_beq, lvOf, makes, isCont, truthV, Option.map_some, Option.map_none, Bool.not_false, Bool.not_true, Bool.and_true, Bool.and_false, Bool.and_self, Bool.true_and, Bool.false_and, if_true, if_false, Bool.false_eq_true, reduceIte, reduceCtorEq, String.reduceBEq, String.reduceEq, Bool.or_true, Bool.or_false, true_or, or_true, ev_join, ev_comp, tgtLoc_name, nmLoc_name, tgtLoc_tup, scOk_eq, isLo, isFr, isCe, scG_nil, scG_cell, scG_local, scG_free, scG_gi, scG_ge, kind_fn, cap_nil, cap_free, cap_local, cap_cell, cap_gi, cap_ge, capK_val, capK_own, capK_none, capOf_nil, capOf_cons, goK_val, goK_own, goK_none, letGo_nil, letGo_cons, binV_add, binV_sub, binV_fd, binV_mod, mkTup_0, mkTup_1, mkTup_2, mkTup_3, mkTup_4, mkTup_5, mkLst_0, mkLst_1, mkLst_2, mkLst_3, mkLst_4, eqV_int, eqV_str, at_0, at_1, at_2, at_3, at_4, at_5, idxV_lst, idxV_tup, cmpV, unV, itemsV, Int.reduceLT, Int.reduceEq, Int.reduceLE, decide_true, decide_false, co_within, co__law_cell_at, co__law_name, co__law_part, co_len, co_list, co_tuple, co_isinstance, co_range, ei_list, ei_tuple, ccall, sl_0, sl_1, sl_2, sl_3, sl_5, sl_7, sl_8, sl_9, sl_10, sl_11, sl_12, sl_13, List.length_map, h1, h2, retOf_ret]
  · have h1 : decide ((k : Int) < (ns.length : Int)) = false := by simpa using h
    have h2 : ns.getD k 0 = 0 := by simp [List.getD, List.getElem?_eq_none (Nat.not_lt.mp h)]
    simp only [ev_const, ev_name, ev_bin, ev_un, ev_bool, ev_cmp, ev_tuple, ev_list, ev_slice, ev_sub, ix_name, ix_const, ix_bin, ix_un, ix_call, ix_sub, ix_attr, nn_call, nn_sub, nn_attr, nn_list, nn_tup, nn_const, withBase_name, withBase_val, evo_none, evo_some, evs_nil, evs_cons, seqD_nil, seqD_cons, boolGo_one, boolGo_and, boolGo_or, ev_fn, ev_len, ev_range, ev_blist, ev_btuple, biLen_lst, biLen_tup, biLen_str, biLen_dct, exs_nil, exs_cons, thenK_next, thenK_ret, thenK_exc, thenK_brk, thenK_cont, ex_pass, ex_ret, ex_if, ex_asg, bindO_ok, bindO_exc, bindO_stuck, bnd_at, pur_at, stk_at, opt_some, opt_none, post_v, post_p, post_i, dConst, dNameM, dName, dPeek, isLoc, isGlob_eq, isG, isLocK, okNm, isSt, look_nil, look_cons, getA_nil, getA_cons, setA_nil, setA_cons, rdLoc_at, rdK_val, rdK_own, rdK_none, pkLoc_at, pkK_val, pkK_own, wrLoc_at, deref_none, deref_bool, deref_int, deref_str, deref_tup, deref_lst, deref_dct, dRet_ok, dRet_exc, dCallF_at, ofString_eq, ofString_beq, lvOf, makes, isCont, truthV, Option.map_some, Option.map_none, Bool.not_false, Bool.not_true, Bool.and_true, Bool.and_false, Bool.and_self, Bool.true_and, Bool.false_and, if_true, if_false, Bool.false_eq_true, reduceIte, reduceCtorEq, String.reduceBEq, String.reduceEq, Bool.or_true, Bool.or_false, true_or, or_true, ev_join, ev_comp, tgtLoc_name, nmLoc_name, tgtLoc_tup, scOk_eq, isLo, isFr, isCe, scG_nil, scG_cell, scG_local, scG_free, scG_gi, scG_ge, kind_fn, cap_nil, cap_free, cap_local, cap_cell, cap_gi, cap_ge, capK_val, capK_own, capK_none, capOf_nil, capOf_cons, goK_val, goK_own, goK_none, letGo_nil, letGo_cons, binV_add, binV_sub, binV_fd, binV_mod, mkTup_0, mkTup_1, mkTup_2, mkTup_3, mkTup_4, mkTup_5, mkLst_0, mkLst_1, mkLst_2, mkLst_3, mkLst_4, eqV_int, eqV_str, at_0, at_1, at_2, at_3, at_4, at_5, idxV_lst, idxV_tup, cmpV, unV, itemsV, Int.reduceLT, Int.reduceEq, Int.reduceLE, decide_true, decide_false, co_within, co__law_cell_at, co__law_name, co__law_part, co_len, co_list, co_tuple, co_isinstance, co_range, ei_list, ei_tuple, ccall, sl_0, sl_1, sl_2, sl_3, sl_5, sl_7, sl_8, sl_9, sl_10, sl_11, sl_12, sl_13, List.length_map, h1, h2, retOf_ret]
theorem lawname (n : Nat) (st : St) (c : Int) : callN P02 0 (n + 1) ⟨#[]⟩ "_law_name" [.int c] st = .ok (.str (nameS c)) st := by
  refine (call_eq (loc := [("_law_cell", .val (.int c))]) rfl rfl rfl).trans ?_
  dsimp only
  have h1 : okR (1 + c % 8) = true := by unfold okR; rw [decide_eq_true_eq]; omega
  have h2 : (rangeL 0 (1 + c % 8)).length ≤ sizeLine := by
    rw [rangeL_zero, List.length_map, List.length_range]; unfold sizeLine; omega
  simp only [ev_const, ev_name, ev_bin, ev_un, ev_bool, ev_cmp, ev_tuple, ev_list, ev_slice, ev_sub, ix_name, ix_const, ix_bin, ix_un, ix_call, ix_sub, ix_attr, nn_call, nn_sub, nn_attr, nn_list, nn_tup, nn_const, withBase_name, withBase_val, evo_none, evo_some, evs_nil, evs_cons, seqD_nil, seqD_cons, boolGo_one, boolGo_and, boolGo_or, ev_fn, ev_len, ev_range, ev_blist, ev_btuple, biLen_lst, biLen_tup, biLen_str, biLen_dct, exs_nil, exs_cons, thenK_next, thenK_ret, thenK_exc, thenK_brk, thenK_cont, ex_pass, ex_ret, ex_if, ex_asg, bindO_ok, bindO_exc, bindO_stuck, bnd_at, pur_at, stk_at, opt_some, opt_none, post_v, post_p, post_i, dConst, dNameM, dName, dPeek, isLoc, isGlob_eq, isG, isLocK, okNm, isSt, look_nil, look_cons, getA_nil, getA_cons, setA_nil, setA_cons, rdLoc_at, rdK_val, rdK_own, rdK_none, pkLoc_at, pkK_val, pkK_own, wrLoc_at, deref_none, deref_bool, deref_int, deref_str, deref_tup, deref_lst, deref_dct, dRet_ok, dRet_exc, dCallF_at, ofString_eq, ofString_beq, lvOf, makes, isCont, truthV, Option.map_some, Option.map_none, Bool.not_false, Bool.not_true, Bool.and_true, Bool.and_false, Bool.and_self, Bool.true_and, Bool.false_and, if_true, if_false, Bool.false_eq_true, reduceIte, reduceCtorEq, String.reduceBEq, String.reduceEq, Bool.or_true, Bool.or_false, true_or, or_true, ev_join, ev_comp, tgtLoc_name, nmLoc_name, tgtLoc_tup, scOk_eq, isLo, isFr, isCe, scG_nil, scG_cell, scG_local, scG_free, scG_gi, scG_ge, kind_fn, cap_nil, cap_free, cap_local, cap_cell, cap_gi, cap_ge, capK_val, capK_own, capK_none, capOf_nil, capOf_cons, goK_val, goK_own, goK_none, letGo_nil, letGo_cons, binV_add, binV_sub, binV_fd, binV_mod, mkTup_0, mkTup_1, mkTup_2, mkTup_3, mkTup_4, mkTup_5, mkLst_0, mkLst_1, mkLst_2, mkLst_3, mkLst_4, eqV_int, eqV_str, at_0, at_1, at_2, at_3, at_4, at_5, idxV_lst, idxV_tup, cmpV, unV, itemsV, Int.reduceLT, Int.reduceEq, Int.reduceLE, decide_true, decide_false, co_within, co__law_cell_at, co__law_name, co__law_part, co_len, co_list, co_tuple, co_isinstance, co_range, ei_list, ei_tuple, ccall, sl_0, sl_1, sl_2, sl_3, sl_5, sl_7, sl_8, sl_9, sl_10, sl_11, sl_12, sl_13, itV_range h1, compK_at h2]
  rw [dComp_map (g := fun v => match v with | .int k => .str ⟨#[97 + ((c / 8 + k * (1 + c / 208 % 25)) % 26).toNat]⟩ | v => v)]
  rotate_left
  · intro v hv
    rw [rangeL_zero, List.mem_map] at hv
    obtain ⟨k, -, rfl⟩ := hv
    apply Exists.intro
    have h3 : smallI (1 + c / 208 % 25) = true := smallI_of (by omega) (by omega)
    have h4 := @alpha_at ((c / 8 + k * (1 + c / 208 % 25)) % 26) (by omega) (by omega)
    simp only [ev_const, ev_name, ev_bin, ev_un, ev_bool, ev_cmp, ev_tuple, ev_list, ev_slice, ev_sub, ix_name, ix_const, ix_bin, ix_un, ix_call, ix_sub, ix_attr, nn_call, nn_sub, nn_attr, nn_list, nn_tup, nn_const, withBase_name, withBase_val, evo_none, evo_some, evs_nil, evs_cons, seqD_nil, seqD_cons, boolGo_one, boolGo_and, boolGo_or, ev_fn, ev_len, ev_range, ev_blist, ev_btuple, biLen_lst, biLen_tup, biLen_str, biLen_dct, exs_nil, exs_cons, thenK_next, thenK_ret, thenK_exc, thenK_brk, thenK_cont, ex_pass, ex_ret, ex_if, ex_asg, bindO_ok, bindO_exc, bindO_stuck, bnd_at, pur_at, stk_at, opt_some, opt_none, post_v, post_p, post_i, dConst, dNameM, dName, dPeek, isLoc, isGlob_eq, isG, isLocK, okNm, isSt, look_nil, look_cons, getA_nil, getA_cons, setA_nil, setA_cons, rdLoc_at, rdK_val, rdK_own, rdK_none, pkLoc_at, pkK_val, pkK_own, wrLoc_at, deref_none, deref_bool, deref_int, deref_str, deref_tup, deref_lst, deref_dct, dRet_ok, dRet_exc, dCallF_at, ofString_eq, ofString_beq, lvOf, makes, isCont, truthV, Option.map_some, Option.map_none, Bool.not_false, Bool.not_true, Bool.and_true, Bool.and_false, Bool.and_self, Bool.true_and, Bool.false_and, if_true, if_false, Bool.false_eq_true, reduceIte, reduceCtorEq, String.reduceBEq, String.reduceEq, Bool.or_true, Bool.or_false, true_or, or_true, ev_join, ev_comp, tgtLoc_name, nmLoc_name, tgtLoc_tup, scOk_eq, isLo, isFr, isCe, scG_nil, scG_cell, scG_local, scG_free, scG_gi, scG_ge, kind_fn, cap_nil, cap_free, cap_local, cap_cell, cap_gi, cap_ge, capK_val, capK_own, capK_none, capOf_nil, capOf_cons, goK_val, goK_own, goK_none, letGo_nil, letGo_cons, binV_add, binV_sub, binV_fd, binV_mod, mkTup_0, mkTup_1, mkTup_2, mkTup_3, mkTup_4, mkTup_5, mkLst_0, mkLst_1, mkLst_2, mkLst_3, mkLst_4, eqV_int, eqV_str, at_0, at_1, at_2, at_3, at_4, at_5, idxV_lst, idxV_tup, cmpV, unV, itemsV, Int.reduceLT, Int.reduceEq, Int.reduceLE, decide_true, decide_false, co_within, co__law_cell_at, co__law_name, co__law_part, co_len, co_list, co_tuple, co_isinstance, co_range, ei_list, ei_tuple, ccall, sl_0, sl_1, sl_2, sl_3, sl_5, sl_7, sl_8, sl_9, sl_10, sl_11, sl_12, sl_13, binV_mulr h3, h4]
    rfl
  have h5 : (rangeL 0 (1 + c % 8)).map (fun v => match v with | .int k => AV.str ⟨#[97 + ((c / 8 + k * (1 + c / 208 % 25)) % 26).toNat]⟩ | v => v) = (List.range (1 + c % 8).toNat).map fun (k : Nat) => AV.str ⟨#[97 + ((c / 8 + (k : Int) * (1 + c / 208 % 25)) % 26).toNat]⟩ := by
    rw [rangeL_zero, List.map_map]; rfl
  have h6 : ((List.range (1 + c % 8).toNat).map fun (k : Nat) => AV.str ⟨#[97 + ((c / 8 + (k : Int) * (1 + c / 208 % 25)) % 26).toNat]⟩).length ≤ sizeLine := by
    rw [List.length_map, List.length_range]; unfold sizeLine; omega
  have h7 : (catS ((List.range (1 + c % 8).toNat).map fun (k : Nat) => (⟨#[97 + ((c / 8 + (k : Int) * (1 + c / 208 % 25)) % 26).toNat]⟩ : Str))) = nameS c := catS_chars _ _
  have h8 : (nameS c).length ≤ sizeLine := by
    show ((nameL c).toArray).size ≤ _
    unfold nameL
    rw [List.size_toArray, List.length_map, List.length_range]; unfold sizeLine; omega
  rw [h5]
  simp only [ev_const, ev_name, ev_bin, ev_un, ev_bool, ev_cmp, ev_tuple, ev_list, ev_slice, ev_sub, ix_name, ix_const, ix_bin, ix_un, ix_call, ix_sub, ix_attr, nn_call, nn_sub, nn_attr, nn_list, nn_tup, nn_const, withBase_name, withBase_val, evo_none, evo_some, evs_nil, evs_cons, seqD_nil, seqD_cons, boolGo_one, boolGo_and, boolGo_or, ev_fn, ev_len, ev_range, ev_blist, ev_btuple, biLen_lst, biLen_tup, biLen_str, biLen_dct, exs_nil, exs_cons, thenK_next, thenK_ret, thenK_exc, thenK_brk, thenK_cont, ex_pass, ex_ret, ex_if, ex_asg, bindO_ok, bindO_exc, bindO_stuck, bnd_at, pur_at, stk_at, opt_some, opt_none, post_v, post_p, post_i, dConst, dNameM, dName, dPeek, isLoc, isGlob_eq, isG, isLocK, okNm, isSt, look_nil, look_cons, getA_nil, getA_cons, setA_nil, setA_cons, rdLoc_at, rdK_val, rdK_own, rdK_none, pkLoc_at, pkK_val, pkK_own, wrLoc_at, deref_none, deref_bool, deref_int, deref_str, deref_tup, deref_lst, deref_dct, dRet_ok, dRet_exc, dCallF_at, ofString_eq, ofString_beq, lvOf, makes, isCont, truthV, Option.map_some, Option.map_none, Bool.not_false, Bool.not_true, Bool.and_true, Bool.and_false, Bool.and_self, Bool.true_and, Bool.false_and, if_true, if_false, Bool.false_eq_true, reduceIte, reduceCtorEq, String.reduceBEq, String.reduceEq, Bool.or_true, Bool.or_false, true_or, or_true, ev_join, ev_comp, tgtLoc_name, nmLoc_name, tgtLoc_tup, scOk_eq, isLo, isFr, isCe, scG_nil, scG_cell, scG_local, scG_free, scG_gi, scG_ge, kind_fn, cap_nil, cap_free, cap_local, cap_cell, cap_gi, cap_ge, capK_val, capK_own, capK_none, capOf_nil, capOf_cons, goK_val, goK_own, goK_none, letGo_nil, letGo_cons, binV_add, binV_sub, binV_fd, binV_mod, mkTup_0, mkTup_1, mkTup_2, mkTup_3, mkTup_4, mkTup_5, mkLst_0, mkLst_1, mkLst_2, mkLst_3, mkLst_4, eqV_int, eqV_str, at_0, at_1, at_2, at_3, at_4, at_5, idxV_lst, idxV_tup, cmpV, unV, itemsV, Int.reduceLT, Int.reduceEq, Int.reduceLE, decide_true, decide_false, co_within, co__law_cell_at, co__law_name, co__law_part, co_len, co_list, co_tuple, co_isinstance, co_range, ei_list, ei_tuple, ccall, sl_0, sl_1, sl_2, sl_3, sl_5, sl_7, sl_8, sl_9, sl_10, sl_11, sl_12, sl_13, mkLst_le h6, dJoin_at (strsOf_map _ _) (by rw [h7]; exact h8), h7, retOf_ret]

noncomputable def partV (c : Int) : AV :=
  if c % 4 = 0 then .tup [.str "name", .str (nameS (c / 4))]
  else if c % 4 = 1 then .tup [.str "times", .tup [.str "num", .int (c / 4 % 1000)], .tup [.str "name", .str (nameS (c / 4 / 1000))]]
  else if c % 4 = 2 then .tup [.str "call", .str (nameS (c / 4)), .tup [.tup [.str "num", .int (c / 4 % 7)]]]
  else .tup [.str "num", .int (c / 4 % 2000000000001 - 1000000000000)]
theorem lawpart (n : Nat) (st : St) (c : Int) : callN P02 0 (n + 1 + 1) ⟨#[]⟩ "_law_part" [.int c] st = .ok (partV c) st := by
  refine (call_eq (loc := [("_law_cell", .val (.int c))]) rfl rfl rfl).trans ?_
  dsimp only
  unfold partV
  by_cases h0 : c % 4 = 0
  · have d0 : decide (c % 4 = 0) = true := decide_eq_true h0
    simp only [ev_const, ev_name, ev_bin, ev_un, ev_bool, ev_cmp, ev_tuple, ev_list, ev_slice, ev_sub, ix_name, ix_const, ix_bin, ix_un, ix_call, ix_sub, ix_attr, nn_call, nn_sub, nn_attr, nn_list, nn_tup, nn_const, withBase_name, withBase_val, evo_none, evo_some, evs_nil, evs_cons, seqD_nil, seqD_cons, boolGo_one, boolGo_and, boolGo_or, ev_fn, ev_len, ev_range, ev_blist, ev_btuple, biLen_lst, biLen_tup, biLen_str, biLen_dct, exs_nil, exs_cons, thenK_next, thenK_ret, thenK_exc, thenK_brk, thenK_cont, ex_pass, ex_ret, ex_if, ex_asg, bindO_ok, bindO_exc, bindO_stuck, bnd_at, pur_at, stk_at, opt_some, opt_none, post_v, post_p, post_i, dConst, dNameM, dName, dPeek, isLoc, isGlob_eq, isG, isLocK, okNm, isSt, look_nil, look_cons, getA_nil, getA_cons, setA_nil, setA_cons, rdLoc_at, rdK_val, rdK_own, rdK_none, pkLoc_at, pkK_val, pkK_own, wrLoc_at, deref_none, deref_bool, deref_int, deref_str, deref_tup, deref_lst, deref_dct, dRet_ok, dRet_exc, dCallF_at, ofString_eq, ofString_beq, lvOf, makes, isCont, truthV, Option.map_some, Option.map_none, Bool.not_false, Bool.not_true, Bool.and_true, Bool.and_false, Bool.and_self, Bool.true_and, Bool.false_and, if_true, if_false, Bool.false_eq_true, reduceIte, reduceCtorEq, String.reduceBEq, String.reduceEq, Bool.or_true, Bool.or_false, true_or, or_true, ev_join, ev_comp, tgtLoc_name, nmLoc_name, tgtLoc_tup, scOk_eq, isLo, isFr, isCe, scG_nil, scG_cell, scG_local, scG_free, scG_gi, scG_ge, kind_fn, cap_nil, cap_free, cap_local, cap_cell, cap_gi, cap_ge, capK_val, capK_own, capK_none, capOf_nil, capOf_cons, goK_val, goK_own, goK_none, letGo_nil, letGo_cons, binV_add, binV_sub, binV_fd, binV_mod, mkTup_0, mkTup_1, mkTup_2, mkTup_3, mkTup_4, mkTup_5, mkLst_0, mkLst_1, mkLst_2, mkLst_3, mkLst_4, eqV_int, eqV_str, at_0, at_1, at_2, at_3, at_4, at_5, idxV_lst, idxV_tup, cmpV, unV, itemsV, Int.reduceLT, Int.reduceEq, Int.reduceLE, decide_true, decide_false, co_within, co__law_cell_at, co__law_name, co__law_part, co_len, co_list, co_tuple, co_isinstance, co_range, ei_list, ei_tuple, ccall, sl_0, sl_1, sl_2, sl_3, sl_5, sl_7, sl_8, sl_9, sl_10, sl_11, sl_12, sl_13, d0, h0, lawname, retOf_ret]
  have d0 : decide (c % 4 = 0) = false := decide_eq_false h0
  by_cases h1 : c % 4 = 1
  · have d1 : decide (c % 4 = 1) = true := decide_eq_true h1
    simp only [ev_const, ev_name, ev_bin, ev_un, ev_bool, ev_cmp, ev_tuple, ev_list, ev_slice, ev_sub, ix_name, ix_const, ix_bin, ix_un, ix_call, ix_sub, ix_attr, nn_call, nn_sub, nn_attr, nn_list, nn_tup, nn_const, withBase_name, withBase_val, evo_none, evo_some, evs_nil, evs_cons, seqD_nil, seqD_cons, boolGo_one, boolGo_and, boolGo_or, ev_fn, ev_len, ev_range, ev_blist, ev_btuple, biLen_lst, biLen_tup, biLen_str, biLen_dct, exs_nil, exs_cons, thenK_next, thenK_ret, thenK_exc, thenK_brk, thenK_cont, ex_pass, ex_ret, ex_if, ex_asg, bindO_ok, bindO_exc, bindO_stuck, bnd_at, pur_at, stk_at, opt_some, opt_none, post_v, post_p, post_i, dConst, dNameM, dName, dPeek, isLoc, isGlob_eq, isG, isLocK, okNm, isSt, look_nil, look_cons, getA_nil, getA_cons, setA_nil, setA_cons, rdLoc_at, rdK_val, rdK_own, rdK_none, pkLoc_at, pkK_val, pkK_own, wrLoc_at, deref_none, deref_bool, deref_int, deref_str, deref_tup, deref_lst, deref_dct, dRet_ok, dRet_exc, dCallF_at, ofString_eq, ofString_beq, lvOf, makes, isCont, truthV, Option.map_some, Option.map_none, Bool.not_false, Bool.not_true, Bool.and_true, Bool.and_false, Bool.and_self, Bool.true_and, Bool.false_and, if_true, if_false, Bool.false_eq_true, reduceIte, reduceCtorEq, String.reduceBEq, String.reduceEq, Bool.or_true, Bool.or_false, true_or, or_true, ev_join, ev_comp, tgtLoc_name, nmLoc_name, tgtLoc_tup, scOk_eq, isLo, isFr, isCe, scG_nil, scG_cell, scG_local, scG_free, scG_gi, scG_ge, kind_fn, cap_nil, cap_free, cap_local, cap_cell, cap_gi, cap_ge, capK_val, capK_own, capK_none, capOf_nil, capOf_cons, goK_val, goK_own, goK_none, letGo_nil, letGo_cons, binV_add, binV_sub, binV_fd, binV_mod, mkTup_0, mkTup_1, mkTup_2, mkTup_3, mkTup_4, mkTup_5, mkLst_0, mkLst_1, mkLst_2, mkLst_3, mkLst_4, eqV_int, eqV_str, at_0, at_1, at_2, at_3, at_4, at_5, idxV_lst, idxV_tup, cmpV, unV, itemsV, Int.reduceLT, Int.reduceEq, Int.reduceLE, decide_true, decide_false, co_within, co__law_cell_at, co__law_name, co__law_part, co_len, co_list, co_tuple, co_isinstance, co_range, ei_list, ei_tuple, ccall, sl_0, sl_1, sl_2, sl_3, sl_5, sl_7, sl_8, sl_9, sl_10, sl_11, sl_12, sl_13, d0, d1, h0, h1, lawname, retOf_ret]
  have d1 : decide (c % 4 = 1) = false := decide_eq_false h1
  by_cases h2 : c % 4 = 2
  · have d2 : decide (c % 4 = 2) = true := decide_eq_true h2
    simp only [ev_const, ev_name, ev_bin, ev_un, ev_bool, ev_cmp, ev_tuple, ev_list, ev_slice, ev_sub, ix_name, ix_const, ix_bin, ix_un, ix_call, ix_sub, ix_attr, nn_call, nn_sub, nn_attr, nn_list, nn_tup, nn_const, withBase_name, withBase_val, evo_none, evo_some, evs_nil, evs_cons, seqD_nil, seqD_cons, boolGo_one, boolGo_and, boolGo_or, ev_fn, ev_len, ev_range, ev_blist, ev_btuple, biLen_lst, biLen_tup, biLen_str, biLen_dct, exs_nil, exs_cons, thenK_next, thenK_ret, thenK_exc, thenK_brk, thenK_cont, ex_pass, ex_ret, ex_if, ex_asg, bindO_ok, bindO_exc, bindO_stuck, bnd_at, pur_at, stk_at, opt_some, opt_none, post_v, post_p, post_i, dConst, dNameM, dName, dPeek, isLoc, isGlob_eq, isG, isLocK, okNm, isSt, look_nil, look_cons, getA_nil, getA_cons, setA_nil, setA_cons, rdLoc_at, rdK_val, rdK_own, rdK_none, pkLoc_at, pkK_val, pkK_own, wrLoc_at, deref_none, deref_bool, deref_int, deref_str, deref_tup, deref_lst, deref_dct, dRet_ok, dRet_exc, dCallF_at, ofString_eq, ofString_beq, lvOf, makes, isCont, truthV, Option.map_some, Option.map_none, Bool.not_false, Bool.not_true, Bool.and_true, Bool.and_false, Bool.and_self, Bool.true_and, Bool.false_and, if_true, if_false, Bool.false_eq_true, reduceIte, reduceCtorEq, String.reduceBEq, String.reduceEq, Bool.or_true, Bool.or_false, true_or, or_true, ev_join, ev_comp, tgtLoc_name, nmLoc_name, tgtLoc_tup, scOk_eq, isLo, isFr, isCe, scG_nil, scG_cell, scG_local, scG_free, scG_gi, scG_ge, kind_fn, cap_nil, cap_free, cap_local, cap_cell, cap_gi, cap_ge, capK_val, capK_own, capK_none, capOf_nil, capOf_cons, goK_val, goK_own, goK_none, letGo_nil, letGo_cons, binV_add, binV_sub, binV_fd, binV_mod, mkTup_0, mkTup_1, mkTup_2, mkTup_3, mkTup_4, mkTup_5, mkLst_0, mkLst_1, mkLst_2, mkLst_3, mkLst_4, eqV_int, eqV_str, at_0, at_1, at_2, at_3, at_4, at_5, idxV_lst, idxV_tup, cmpV, unV, itemsV, Int.reduceLT, Int.reduceEq, Int.reduceLE, decide_true, decide_false, co_within, co__law_cell_at, co__law_name, co__law_part, co_len, co_list, co_tuple, co_isinstance, co_range, ei_list, ei_tuple, ccall, sl_0, sl_1, sl_2, sl_3, sl_5, sl_7, sl_8, sl_9, sl_10, sl_11, sl_12, sl_13, d0, d1, d2, h0, h1, h2, lawname, retOf_ret]
  have d2 : decide (c % 4 = 2) = false := decide_eq_false h2
  simp only [ev_const, ev_name, ev_bin, ev_un, ev_bool, ev_cmp, ev_tuple, ev_list, ev_slice, ev_sub, ix_name, ix_const, ix_bin, ix_un, ix_call, ix_sub, ix_attr, nn_call, nn_sub, nn_attr, nn_list, nn_tup, nn_const, withBase_name, withBase_val, evo_none, evo_some, evs_nil, evs_cons, seqD_nil, seqD_cons, boolGo_one, boolGo_and, boolGo_or, ev_fn, ev_len, ev_range, ev_blist, ev_btuple, biLen_lst, biLen_tup, biLen_str, biLen_dct, exs_nil, exs_cons, thenK_next, thenK_ret, thenK_exc, thenK_brk, thenK_cont, ex_pass, ex_ret, ex_if, ex_asg, bindO_ok, bindO_exc, bindO_stuck, bnd_at, pur_at, stk_at, opt_some, opt_none, post_v, post_p, post_i, dConst, dNameM, dName, dPeek, isLoc, isGlob_eq, isG, isLocK, okNm, isSt, look_nil, look_cons, getA_nil, getA_cons, setA_nil, setA_cons, rdLoc_at, rdK_val, rdK_own, rdK_none, pkLoc_at, pkK_val, pkK_own, wrLoc_at, deref_none, deref_bool, deref_int, deref_str, deref_tup, deref_lst, deref_dct, dRet_ok, dRet_exc, dCallF_at, ofString_eq, ofString_beq, lvOf, makes, isCont, truthV, Option.map_some, Option.map_none, Bool.not_false, Bool.not_true, Bool.and_true, Bool.and_false, Bool.and_self, Bool.true_and, Bool.false_and, if_true, if_false, Bool.false_eq_true, reduceIte, reduceCtorEq, String.reduceBEq, String.reduceEq, Bool.or_true, Bool.or_false, true_or, or_true, ev_join, ev_comp, tgtLoc_name, nmLoc_name, tgtLoc_tup, scOk_eq, isLo, isFr, isCe, scG_nil, scG_cell, scG_local, scG_free, scG_gi, scG_ge, kind_fn, cap_nil, cap_free, cap_local, cap_cell, cap_gi, cap_ge, capK_val, capK_own, capK_none, capOf_nil, capOf_cons, goK_val, goK_own, goK_none, letGo_nil, letGo_cons, binV_add, binV_sub, binV_fd, binV_mod, mkTup_0, mkTup_1, mkTup_2, mkTup_3, mkTup_4, mkTup_5, mkLst_0, mkLst_1, mkLst_2, mkLst_3, mkLst_4, eqV_int, eqV_str, at_0, at_1, at_2, at_3, at_4, at_5, idxV_lst, idxV_tup, cmpV, unV, itemsV, Int.reduceLT, Int.reduceEq, Int.reduceLE, decide_true, decide_false, co_within, co__law_cell_at, co__law_name, co__law_part, co_len, co_list, co_tuple, co_isinstance, co_range, ei_list, ei_tuple, ccall, sl_0, sl_1, sl_2, sl_3, sl_5, sl_7, sl_8, sl_9, sl_10, sl_11, sl_12, sl_13, d0, d1, d2, h0, h1, h2, lawname, retOf_ret]
theorem partV_ok (c : Int) : dataV (partV c) = true ∧ depthV (partV c) ≤ 5 := by
  unfold partV
  split
  · exact ⟨rfl, by simp [depthV, depthVs]⟩
  · split
    · exact ⟨rfl, by simp [depthV, depthVs]⟩
    · split
      · exact ⟨rfl, by simp [depthV, depthVs]⟩
      · exact ⟨rfl, by simp [depthV, depthVs]⟩
theorem within_leaf (n : Nat) (st : St) (w : String) (h : w = "num" ∨ w = "name") (x : AV) : callN P02 0 (n + 1) ⟨#[]⟩ "within" [.tup [.str (Str.ofString w), x]] st = .ok (.lst []) st := by
  refine (call_eq (loc := [("tree", .val (.tup [.str (Str.ofString w), x]))]) rfl rfl rfl).trans ?_
  dsimp only
  rcases h with rfl | rfl <;> simp only [ev_const, ev_name, ev_bin, ev_un, ev_bool, ev_cmp, ev_tuple, ev_list, ev_slice, ev_sub, ix_name, ix_const, ix_bin, ix_un, ix_call, ix_sub, ix_attr, nn_call, nn_sub, nn_attr, nn_list, nn_tup, nn_const, withBase_name, withBase_val, evo_none, evo_some, evs_nil, evs_cons, seqD_nil, seqD_cons, boolGo_one, boolGo_and, boolGo_or, ev_fn, ev_len, ev_range, ev_blist, ev_btuple, biLen_lst, biLen_tup, biLen_str, biLen_dct, exs_nil, exs_cons, thenK_next, thenK_ret, thenK_exc, thenK_brk, thenK_cont, ex_pass, ex_ret, ex_if, ex_asg, bindO_ok, bindO_exc, bindO_stuck, bnd_at, pur_at, stk_at, opt_some, opt_none, post_v, post_p, post_i, dConst, dNameM, dName, dPeek, isLoc, isGlob_eq, isG, isLocK, okNm, isSt, look_nil, look_cons, getA_nil, getA_cons, setA_nil, setA_cons, rdLoc_at, rdK_val, rdK_own, rdK_none, pkLoc_at, pkK_val, pkK_own, wrLoc_at, deref_none, deref_bool, deref_int, deref_str, deref_tup, deref_lst, deref_dct, dRet_ok, dRet_exc, dCallF_at, ofString_eq, ofString_beq, lvOf, makes, isCont, truthV, Option.map_some, Option.map_none, Bool.not_false, Bool.not_true, Bool.and_true, Bool.and_false, Bool.and_self, Bool.true_and, Bool.false_and, if_true, if_false, Bool.false_eq_true, reduceIte, reduceCtorEq, String.reduceBEq, String.reduceEq, Bool.or_true, Bool.or_false, true_or, or_true, ev_join, ev_comp, tgtLoc_name, nmLoc_name, tgtLoc_tup, scOk_eq, isLo, isFr, isCe, scG_nil, scG_cell, scG_local, scG_free, scG_gi, scG_ge, kind_fn, cap_nil, cap_free, cap_local, cap_cell, cap_gi, cap_ge, capK_val, capK_own, capK_none, capOf_nil, capOf_cons, goK_val, goK_own, goK_none, letGo_nil, letGo_cons, binV_add, binV_sub, binV_fd, binV_mod, mkTup_0, mkTup_1, mkTup_2, mkTup_3, mkTup_4, mkTup_5, mkLst_0, mkLst_1, mkLst_2, mkLst_3, mkLst_4, eqV_int, eqV_str, at_0, at_1, at_2, at_3, at_4, at_5, idxV_lst, idxV_tup, cmpV, unV, itemsV, Int.reduceLT, Int.reduceEq, Int.reduceLE, decide_true, decide_false, co_within, co__law_cell_at, co__law_name, co__law_part, co_len, co_list, co_tuple, co_isinstance, co_range, ei_list, ei_tuple, ccall, sl_0, sl_1, sl_2, sl_3, sl_5, sl_7, sl_8, sl_9, sl_10, sl_11, sl_12, sl_13, retOf_ret]
theorem within_let (n : Nat) (st : St) (x a b : AV) : callN P02 0 (n + 1) ⟨#[]⟩ "within" [.tup [.str (Str.ofString "let"), x, a, b]] st = .ok (.lst [a, b]) st := by
  refine (call_eq (loc := [("tree", .val (.tup [.str (Str.ofString "let"), x, a, b]))]) rfl rfl rfl).trans ?_
  dsimp only
  simp only [ev_const, ev_name, ev_bin, ev_un, ev_bool, ev_cmp, ev_tuple, ev_list, ev_slice, ev_sub, ix_name, ix_const, ix_bin, ix_un, ix_call, ix_sub, ix_attr, nn_call, nn_sub, nn_attr, nn_list, nn_tup, nn_const, withBase_name, withBase_val, evo_none, evo_some, evs_nil, evs_cons, seqD_nil, seqD_cons, boolGo_one, boolGo_and, boolGo_or, ev_fn, ev_len, ev_range, ev_blist, ev_btuple, biLen_lst, biLen_tup, biLen_str, biLen_dct, exs_nil, exs_cons, thenK_next, thenK_ret, thenK_exc, thenK_brk, thenK_cont, ex_pass, ex_ret, ex_if, ex_asg, bindO_ok, bindO_exc, bindO_stuck, bnd_at, pur_at, stk_at, opt_some, opt_none, post_v, post_p, post_i, dConst, dNameM, dName, dPeek, isLoc, isGlob_eq, isG, isLocK, okNm, isSt, look_nil, look_cons, getA_nil, getA_cons, setA_nil, setA_cons, rdLoc_at, rdK_val, rdK_own, rdK_none, pkLoc_at, pkK_val, pkK_own, wrLoc_at, deref_none, deref_bool, deref_int, deref_str, deref_tup, deref_lst, deref_dct, dRet_ok, dRet_exc, dCallF_at, ofString_eq, ofString_beq, lvOf, makes, isCont, truthV, Option.map_some, Option.map_none, Bool.not_false, Bool.not_true, Bool.and_true, Bool.and_false, Bool.and_self, Bool.true_and, Bool.false_and, if_true, if_false, Bool.false_eq_true, reduceIte, reduceCtorEq, String.reduceBEq, String.reduceEq, Bool.or_true, Bool.or_false, true_or, or_true, ev_join, ev_comp, tgtLoc_name, nmLoc_name, tgtLoc_tup, scOk_eq, isLo, isFr, isCe, scG_nil, scG_cell, scG_local, scG_free, scG_gi, scG_ge, kind_fn, cap_nil, cap_free, cap_local, cap_cell, cap_gi, cap_ge, capK_val, capK_own, capK_none, capOf_nil, capOf_cons, goK_val, goK_own, goK_none, letGo_nil, letGo_cons, binV_add, binV_sub, binV_fd, binV_mod, mkTup_0, mkTup_1, mkTup_2, mkTup_3, mkTup_4, mkTup_5, mkLst_0, mkLst_1, mkLst_2, mkLst_3, mkLst_4, eqV_int, eqV_str, at_0, at_1, at_2, at_3, at_4, at_5, idxV_lst, idxV_tup, cmpV, unV, itemsV, Int.reduceLT, Int.reduceEq, Int.reduceLE, decide_true, decide_false, co_within, co__law_cell_at, co__law_name, co__law_part, co_len, co_list, co_tuple, co_isinstance, co_range, ei_list, ei_tuple, ccall, sl_0, sl_1, sl_2, sl_3, sl_5, sl_7, sl_8, sl_9, sl_10, sl_11, sl_12, sl_13, retOf_ret]
theorem within_call (n : Nat) (st : St) (x : AV) (l : List AV) (hl : l.length ≤ sizeLine) : callN P02 0 (n + 1) ⟨#[]⟩ "within" [.tup [.str (Str.ofString "call"), x, .tup l]] st = .ok (.lst l) st := by
  refine (call_eq (loc := [("tree", .val (.tup [.str (Str.ofString "call"), x, .tup l]))]) rfl rfl rfl).trans ?_
  dsimp only
  simp only [ev_const, ev_name, ev_bin, ev_un, ev_bool, ev_cmp, ev_tuple, ev_list, ev_slice, ev_sub, ix_name, ix_const, ix_bin, ix_un, ix_call, ix_sub, ix_attr, nn_call, nn_sub, nn_attr, nn_list, nn_tup, nn_const, withBase_name, withBase_val, evo_none, evo_some, evs_nil, evs_cons, seqD_nil, seqD_cons, boolGo_one, boolGo_and, boolGo_or, ev_fn, ev_len, ev_range, ev_blist, ev_btuple, biLen_lst, biLen_tup, biLen_str, biLen_dct, exs_nil, exs_cons, thenK_next, thenK_ret, thenK_exc, thenK_brk, thenK_cont, ex_pass, ex_ret, ex_if, ex_asg, bindO_ok, bindO_exc, bindO_stuck, bnd_at, pur_at, stk_at, opt_some, opt_none, post_v, post_p, post_i, dConst, dNameM, dName, dPeek, isLoc, isGlob_eq, isG, isLocK, okNm, isSt, look_nil, look_cons, getA_nil, getA_cons, setA_nil, setA_cons, rdLoc_at, rdK_val, rdK_own, rdK_none, pkLoc_at, pkK_val, pkK_own, wrLoc_at, deref_none, deref_bool, deref_int, deref_str, deref_tup, deref_lst, deref_dct, dRet_ok, dRet_exc, dCallF_at, ofString_eq, ofString_beq, lvOf, makes, isCont, truthV, Option.map_some, Option.map_none, Bool.not_false, Bool.not_true, Bool.and_true, Bool.and_false, Bool.and_self, Bool.true_and, Bool.false_and, if_true, if_false, Bool.false_eq_true, reduceIte, reduceCtorEq, String.reduceBEq, String.reduceEq, Bool.or_true, Bool.or_false, true_or, or_true, ev_join, ev_comp, tgtLoc_name, nmLoc_name, tgtLoc_tup, scOk_eq, isLo, isFr, isCe, scG_nil, scG_cell, scG_local, scG_free, scG_gi, scG_ge, kind_fn, cap_nil, cap_free, cap_local, cap_cell, cap_gi, cap_ge, capK_val, capK_own, capK_none, capOf_nil, capOf_cons, goK_val, goK_own, goK_none, letGo_nil, letGo_cons, binV_add, binV_sub, binV_fd, binV_mod, mkTup_0, mkTup_1, mkTup_2, mkTup_3, mkTup_4, mkTup_5, mkLst_0, mkLst_1, mkLst_2, mkLst_3, mkLst_4, eqV_int, eqV_str, at_0, at_1, at_2, at_3, at_4, at_5, idxV_lst, idxV_tup, cmpV, unV, itemsV, Int.reduceLT, Int.reduceEq, Int.reduceLE, decide_true, decide_false, co_within, co__law_cell_at, co__law_name, co__law_part, co_len, co_list, co_tuple, co_isinstance, co_range, ei_list, ei_tuple, ccall, sl_0, sl_1, sl_2, sl_3, sl_5, sl_7, sl_8, sl_9, sl_10, sl_11, sl_12, sl_13, biV, mkLst_le hl, retOf_ret]
theorem within_deed (n : Nat) (st : St) (w : String) (h : w = "sum" ∨ w = "less" ∨ w = "times" ∨ w = "part" ∨ w = "below" ∨ w = "choose") (l : List AV) (hl : l.length ≤ sizeLine) :
    callN P02 0 (n + 1) ⟨#[]⟩ "within" [.tup (.str (Str.ofString w) :: l)] st = .ok (.lst l) st := by
  refine (call_eq (loc := [("tree", .val (.tup (.str (Str.ofString w) :: l)))]) rfl rfl rfl).trans ?_
  dsimp only
  rcases h with rfl | rfl | rfl | rfl | rfl | rfl <;> simp only [ev_const, ev_name, ev_bin, ev_un, ev_bool, ev_cmp, ev_tuple, ev_list, ev_slice, ev_sub, ix_name, ix_const, ix_bin, ix_un, ix_call, ix_sub, ix_attr, nn_call, nn_sub, nn_attr, nn_list, nn_tup, nn_const, withBase_name, withBase_val, evo_none, evo_some, evs_nil, evs_cons, seqD_nil, seqD_cons, boolGo_one, boolGo_and, boolGo_or, ev_fn, ev_len, ev_range, ev_blist, ev_btuple, biLen_lst, biLen_tup, biLen_str, biLen_dct, exs_nil, exs_cons, thenK_next, thenK_ret, thenK_exc, thenK_brk, thenK_cont, ex_pass, ex_ret, ex_if, ex_asg, bindO_ok, bindO_exc, bindO_stuck, bnd_at, pur_at, stk_at, opt_some, opt_none, post_v, post_p, post_i, dConst, dNameM, dName, dPeek, isLoc, isGlob_eq, isG, isLocK, okNm, isSt, look_nil, look_cons, getA_nil, getA_cons, setA_nil, setA_cons, rdLoc_at, rdK_val, rdK_own, rdK_none, pkLoc_at, pkK_val, pkK_own, wrLoc_at, deref_none, deref_bool, deref_int, deref_str, deref_tup, deref_lst, deref_dct, dRet_ok, dRet_exc, dCallF_at, ofString_eq, ofString_beq, lvOf, makes, isCont, truthV, Option.map_some, Option.map_none, Bool.not_false, Bool.not_true, Bool.and_true, Bool.and_false, Bool.and_self, Bool.true_and, Bool.false_and, if_true, if_false, Bool.false_eq_true, reduceIte, reduceCtorEq, String.reduceBEq, String.reduceEq, Bool.or_true, Bool.or_false, true_or, or_true, ev_join, ev_comp, tgtLoc_name, nmLoc_name, tgtLoc_tup, scOk_eq, isLo, isFr, isCe, scG_nil, scG_cell, scG_local, scG_free, scG_gi, scG_ge, kind_fn, cap_nil, cap_free, cap_local, cap_cell, cap_gi, cap_ge, capK_val, capK_own, capK_none, capOf_nil, capOf_cons, goK_val, goK_own, goK_none, letGo_nil, letGo_cons, binV_add, binV_sub, binV_fd, binV_mod, mkTup_0, mkTup_1, mkTup_2, mkTup_3, mkTup_4, mkTup_5, mkLst_0, mkLst_1, mkLst_2, mkLst_3, mkLst_4, eqV_int, eqV_str, at_0, at_1, at_2, at_3, at_4, at_5, idxV_lst, idxV_tup, cmpV, unV, itemsV, Int.reduceLT, Int.reduceEq, Int.reduceLE, decide_true, decide_false, co_within, co__law_cell_at, co__law_name, co__law_part, co_len, co_list, co_tuple, co_isinstance, co_range, ei_list, ei_tuple, ccall, sl_0, sl_1, sl_2, sl_3, sl_5, sl_7, sl_8, sl_9, sl_10, sl_11, sl_12, sl_13, slcV_tup1, biV, mkLst_le hl, retOf_ret]

theorem cellat0 (n : Nat) (st : St) (ns : List Int) : callN P02 0 (n + 1) ⟨#[]⟩ "_law_cell_at" [.lst (ns.map .int), .int 0] st = .ok (.int (ns.getD 0 0)) st := cellat n st ns 0
theorem cellat1 (n : Nat) (st : St) (ns : List Int) : callN P02 0 (n + 1) ⟨#[]⟩ "_law_cell_at" [.lst (ns.map .int), .int 1] st = .ok (.int (ns.getD 1 0)) st := cellat n st ns 1
theorem cellat8 (n : Nat) (st : St) (ns : List Int) : callN P02 0 (n + 1) ⟨#[]⟩ "_law_cell_at" [.lst (ns.map .int), .int 8] st = .ok (.int (ns.getD 8 0)) st := cellat n st ns 8
theorem lst_ok {l : List AV} (h : ∀ v ∈ l, dataV v = true ∧ depthV v ≤ 5) : eqV (.lst l) (.lst l) = some true := by
  have h1 : dataVs l = true ∧ depthVs l ≤ 5 := by
    induction l with
    | nil => exact ⟨rfl, Nat.zero_le _⟩
    | cons a t ih =>
      have := ih fun v hv => h v (List.mem_cons_of_mem _ hv)
      have ha := h a (List.mem_cons_self ..)
      rw [dataVs, depthVs]
      exact ⟨by rw [ha.1, this.1]; rfl, Nat.max_le.mpr ⟨ha.2, this.2⟩⟩
  exact eqV_self (by rw [dataV]; exact h1.1) (by rw [depthV]; omega)
theorem law02 (n : Nat) (ns : List Int) : callN P02 0 (n + 1 + 1 + 1) ⟨#[]⟩ "law" [.lst (ns.map .int)] [] = .ok (.bool true) [] := by
  refine (call_eq (loc := [("_law_script", .val (.lst (ns.map .int)))]) rfl rfl rfl).trans ?_
  dsimp only
  have hw : ∀ l : List AV, l.length = 10 → mkLst l = some (.lst l) := fun l h => mkLst_le (by rw [h]; decide)
  have h1 : okR 6 = true := by decide
  have h2 : (rangeL 0 6).length ≤ sizeLine := by decide
  obtain ⟨j, hj, hc⟩ : ∃ j : Nat, j < 10 ∧ ns.getD 0 0 % 10 = (j : Int) := ⟨(ns.getD 0 0 % 10).toNat, by omega, by omega⟩
  obtain ⟨w, hwd⟩ : ∃ w : String, at? [.str (Str.ofString "num"), .str (Str.ofString "name"), .str (Str.ofString "sum"), .str (Str.ofString "less"), .str (Str.ofString "times"), .str (Str.ofString "part"), .str (Str.ofString "below"), .str (Str.ofString "choose"), .str (Str.ofString "let"), .str (Str.ofString "call")] (j : Int) = some (.str (Str.ofString w)) ∧ (w = "num" ∨ w = "name" ∨ w = "sum" ∨ w = "less" ∨ w = "times" ∨ w = "part" ∨ w = "below" ∨ w = "choose" ∨ w = "let" ∨ w = "call") := by
    have hj' : j = 0 ∨ j = 1 ∨ j = 2 ∨ j = 3 ∨ j = 4 ∨ j = 5 ∨ j = 6 ∨ j = 7 ∨ j = 8 ∨ j = 9 := by omega
    rcases hj' with rfl | rfl | rfl | rfl | rfl | rfl | rfl | rfl | rfl | rfl
    all_goals exact ⟨_, rfl, by simp⟩
  simp only [ev_const, ev_name, ev_bin, ev_un, ev_bool, ev_cmp, ev_tuple, ev_list, ev_slice, ev_sub, ix_name, ix_const, ix_bin, ix_un, ix_call, ix_sub, ix_attr, nn_call, nn_sub, nn_attr, nn_list, nn_tup, nn_const, withBase_name, withBase_val, evo_none, evo_some, evs_nil, evs_cons, seqD_nil, seqD_cons, boolGo_one, boolGo_and, boolGo_or, ev_fn, ev_len, ev_range, ev_blist, ev_btuple, biLen_lst, biLen_tup, biLen_str, biLen_dct, exs_nil, exs_cons, thenK_next, thenK_ret, thenK_exc, thenK_brk, thenK_cont, ex_pass, ex_ret, ex_if, ex_asg, bindO_ok, bindO_exc, bindO_stuck, bnd_at, pur_at, stk_at, opt_some, opt_none, post_v, post_p, post_i, dConst, dNameM, dName, dPeek, isLoc, isGlob_eq, isG, isLocK, okNm, isSt, look_nil, look_cons, getA_nil, getA_cons, setA_nil, setA_cons, rdLoc_at, rdK_val, rdK_own, rdK_none, pkLoc_at, pkK_val, pkK_own, wrLoc_at, deref_none, deref_bool, deref_int, deref_str, deref_tup, deref_lst, deref_dct, dRet_ok, dRet_exc, dCallF_at, ofString_eq, ofString_beq, lvOf, makes, isCont, truthV, Option.map_some, Option.map_none, Bool.not_false, Bool.not_true, Bool.and_true, Bool.and_false, Bool.and_self, Bool.true_and, Bool.false_and, if_true, if_false, Bool.false_eq_true, reduceIte, reduceCtorEq, String.reduceBEq, String.reduceEq, Bool.or_true, Bool.or_false, true_or, or_true, ev_join, ev_comp, tgtLoc_name, nmLoc_name, tgtLoc_tup, scOk_eq, isLo, isFr, isCe, scG_nil, scG_cell, scG_local, scG_free, scG_gi, scG_ge, kind_fn, cap_nil, cap_free, cap_local, cap_cell, cap_gi, cap_ge, capK_val, capK_own, capK_none, capOf_nil, capOf_cons, goK_val, goK_own, goK_none, letGo_nil, letGo_cons, binV_add, binV_sub, binV_fd, binV_mod, mkTup_0, mkTup_1, mkTup_2, mkTup_3, mkTup_4, mkTup_5, mkLst_0, mkLst_1, mkLst_2, mkLst_3, mkLst_4, eqV_int, eqV_str, at_0, at_1, at_2, at_3, at_4, at_5, idxV_lst, idxV_tup, cmpV, unV, itemsV, Int.reduceLT, Int.reduceEq, Int.reduceLE, decide_true, decide_false, co_within, co__law_cell_at, co__law_name, co__law_part, co_len, co_list, co_tuple, co_isinstance, co_range, ei_list, ei_tuple, ccall, sl_0, sl_1, sl_2, sl_3, sl_5, sl_7, sl_8, sl_9, sl_10, sl_11, sl_12, sl_13, hw _ (rfl : List.length [_, _, _, _, _, _, _, _, _, _] = 10), cellat0, cellat1, hc, hwd.1, lawname, itV_range h1, compK_at h2]
  rw [dComp_map (g := fun v => match v with | .int k => partV (ns.getD (2 + k.toNat) 0) | v => v)]
  rotate_left
  · intro v hv
    rw [rangeL_zero, List.mem_map] at hv
    obtain ⟨k, -, rfl⟩ := hv
    apply Exists.intro
    have h3 : (2 : Int) + (k : Int) = ((2 + k : Nat) : Int) := by omega
    simp only [ev_const, ev_name, ev_bin, ev_un, ev_bool, ev_cmp, ev_tuple, ev_list, ev_slice, ev_sub, ix_name, ix_const, ix_bin, ix_un, ix_call, ix_sub, ix_attr, nn_call, nn_sub, nn_attr, nn_list, nn_tup, nn_const, withBase_name, withBase_val, evo_none, evo_some, evs_nil, evs_cons, seqD_nil, seqD_cons, boolGo_one, boolGo_and, boolGo_or, ev_fn, ev_len, ev_range, ev_blist, ev_btuple, biLen_lst, biLen_tup, biLen_str, biLen_dct, exs_nil, exs_cons, thenK_next, thenK_ret, thenK_exc, thenK_brk, thenK_cont, ex_pass, ex_ret, ex_if, ex_asg, bindO_ok, bindO_exc, bindO_stuck, bnd_at, pur_at, stk_at, opt_some, opt_none, post_v, post_p, post_i, dConst, dNameM, dName, dPeek, isLoc, isGlob_eq, isG, isLocK, okNm, isSt, look_nil, look_cons, getA_nil, getA_cons, setA_nil, setA_cons, rdLoc_at, rdK_val, rdK_own, rdK_none, pkLoc_at, pkK_val, pkK_own, wrLoc_at, deref_none, deref_bool, deref_int, deref_str, deref_tup, deref_lst, deref_dct, dRet_ok, dRet_exc, dCallF_at, ofString_eq, ofString_beq, lvOf, makes, isCont, truthV, Option.map_some, Option.map_none, Bool.not_false, Bool.not_true, Bool.and_true, Bool.and_false, Bool.and_self, Bool.true_and, Bool.false_and, if_true, if_false, Bool.false_eq_true, reduceIte, reduceCtorEq, String.reduceBEq, String.reduceEq, Bool.or_true, Bool.or_false, true_or, or_true, ev_join, ev_comp, tgtLoc_name, nmLoc_name, tgtLoc_tup, scOk_eq, isLo, isFr, isCe, scG_nil, scG_cell, scG_local, scG_free, scG_gi, scG_ge, kind_fn, cap_nil, cap_free, cap_local, cap_cell, cap_gi, cap_ge, capK_val, capK_own, capK_none, capOf_nil, capOf_cons, goK_val, goK_own, goK_none, letGo_nil, letGo_cons, binV_add, binV_sub, binV_fd, binV_mod, mkTup_0, mkTup_1, mkTup_2, mkTup_3, mkTup_4, mkTup_5, mkLst_0, mkLst_1, mkLst_2, mkLst_3, mkLst_4, eqV_int, eqV_str, at_0, at_1, at_2, at_3, at_4, at_5, idxV_lst, idxV_tup, cmpV, unV, itemsV, Int.reduceLT, Int.reduceEq, Int.reduceLE, decide_true, decide_false, co_within, co__law_cell_at, co__law_name, co__law_part, co_len, co_list, co_tuple, co_isinstance, co_range, ei_list, ei_tuple, ccall, sl_0, sl_1, sl_2, sl_3, sl_5, sl_7, sl_8, sl_9, sl_10, sl_11, sl_12, sl_13, h3, cellat, lawpart, Int.toNat_natCast]
    rfl
  have h5 : (rangeL 0 6).map (fun v => match v with | .int k => partV (ns.getD (2 + k.toNat) 0) | v => v) = [partV (ns.getD 2 0), partV (ns.getD 3 0), partV (ns.getD 4 0), partV (ns.getD 5 0), partV (ns.getD 6 0), partV (ns.getD 7 0)] := rfl
  rw [h5]
  have hp : ∀ l : List AV, l.length = 6 → mkLst l = some (.lst l) := fun l h => mkLst_le (by rw [h]; decide)
  have o1 := partV_ok (ns.getD 2 0)
  have o2 := partV_ok (ns.getD 3 0)
  have o3 := partV_ok (ns.getD 4 0)
  have o4 := partV_ok (ns.getD 5 0)
  have o5 := partV_ok (ns.getD 6 0)
  have o6 := partV_ok (ns.getD 7 0)
  generalize partV (ns.getD 2 0) = p1 at *
  generalize partV (ns.getD 3 0) = p2 at *
  generalize partV (ns.getD 4 0) = p3 at *
  generalize partV (ns.getD 5 0) = p4 at *
  generalize partV (ns.getD 6 0) = p5 at *
  generalize partV (ns.getD 7 0) = p6 at *
  have hall : ∀ v ∈ [p1, p2, p3, p4, p5, p6], dataV v = true ∧ depthV v ≤ 5 := by
    intro v hv
    simp only [List.mem_cons, List.not_mem_nil, or_false] at hv
    rcases hv with rfl | rfl | rfl | rfl | rfl | rfl <;> assumption
  have s2 : slcV (.lst [p1, p2, p3, p4, p5, p6]) .none (.int 2) = some (.lst [p1, p2]) := slcV_to (by omega)
  have s3 : slcV (.lst [p1, p2, p3, p4, p5, p6]) .none (.int 3) = some (.lst [p1, p2, p3]) := slcV_to (by omega)
  have e0 : eqV (.lst []) (.lst []) = some true := rfl
  have e2 : eqV (.lst [p1, p2]) (.lst [p1, p2]) = some true := lst_ok fun v hv => hall v (List.mem_of_mem_take (i := 2) (l := [p1, p2, p3, p4, p5, p6]) hv)
  have e3 : eqV (.lst [p1, p2, p3]) (.lst [p1, p2, p3]) = some true := lst_ok fun v hv => hall v (List.mem_of_mem_take (i := 3) (l := [p1, p2, p3, p4, p5, p6]) hv)
  have s7 : slcV (.lst [p1, p2, p3, p4, p5, p6]) .none (.int (ns.getD 8 0 % 7)) = some (.lst ([p1, p2, p3, p4, p5, p6].take (ns.getD 8 0 % 7).toNat)) := slcV_to (by omega)
  have e7 : eqV (.lst ([p1, p2, p3, p4, p5, p6].take (ns.getD 8 0 % 7).toNat)) (.lst ([p1, p2, p3, p4, p5, p6].take (ns.getD 8 0 % 7).toNat)) = some true := lst_ok fun v hv => hall v (List.mem_of_mem_take hv)
  have l7 : ([p1, p2, p3, p4, p5, p6].take (ns.getD 8 0 % 7).toNat).length ≤ sizeLine := Nat.le_trans (List.length_take_le' ..) (by decide : 6 ≤ sizeLine)
  generalize [p1, p2, p3, p4, p5, p6].take (ns.getD 8 0 % 7).toNat = l8 at *
  have z2 : [p1, p2].length ≤ sizeLine := (by decide : 2 ≤ sizeLine)
  have z3 : [p1, p2, p3].length ≤ sizeLine := (by decide : 3 ≤ sizeLine)
  obtain ⟨-, hwd⟩ := hwd
  rcases hwd with rfl | rfl | rfl | rfl | rfl | rfl | rfl | rfl | rfl | rfl
  · simp only [ev_const, ev_name, ev_bin, ev_un, ev_bool, ev_cmp, ev_tuple, ev_list, ev_slice, ev_sub, ix_name, ix_const, ix_bin, ix_un, ix_call, ix_sub, ix_attr, nn_call, nn_sub, nn_attr, nn_list, nn_tup, nn_const, withBase_name, withBase_val, evo_none, evo_some, evs_nil, evs_cons, seqD_nil, seqD_cons, boolGo_one, boolGo_and, boolGo_or, ev_fn, ev_len, ev_range, ev_blist, ev_btuple, biLen_lst, biLen_tup, biLen_str, biLen_dct, exs_nil, exs_cons, thenK_next, thenK_ret, thenK_exc, thenK_brk, thenK_cont, ex_pass, ex_ret, ex_if, ex_asg, bindO_ok, bindO_exc, bindO_stuck, bnd_at, pur_at, stk_at, opt_some, opt_none, post_v, post_p, post_i, dConst, dNameM, dName, dPeek, isLoc, isGlob_eq, isG, isLocK, okNm, isSt, look_nil, look_cons, getA_nil, getA_cons, setA_nil, setA_cons, rdLoc_at, rdK_val, rdK_own, rdK_none, pkLoc_at, pkK_val, pkK_own, wrLoc_at, deref_none, deref_bool, deref_int, deref_str, deref_tup, deref_lst, deref_dct, dRet_ok, dRet_exc, dCallF_at, ofString_eq, ofString_beq, lvOf, makes, isCont, truthV, Option.map_some, Option.map_none, Bool.not_false, Bool.not_true, Bool.and_true, Bool.and_false, Bool.and_self, Bool.true_and, Bool.false_and, if_true, if_false, Bool.false_eq_true, reduceIte, reduceCtorEq, String.reduceBEq, String.reduceEq, Bool.or_true, Bool.or_false, true_or, or_true, ev_join, ev_comp, tgtLoc_name, nmLoc_name, tgtLoc_tup, scOk_eq, isLo, isFr, isCe, scG_nil, scG_cell, scG_local, scG_free, scG_gi, scG_ge, kind_fn, cap_nil, cap_free, cap_local, cap_cell, cap_gi, cap_ge, capK_val, capK_own, capK_none, capOf_nil, capOf_cons, goK_val, goK_own, goK_none, letGo_nil, letGo_cons, binV_add, binV_sub, binV_fd, binV_mod, mkTup_0, mkTup_1, mkTup_2, mkTup_3, mkTup_4, mkTup_5, mkLst_0, mkLst_1, mkLst_2, mkLst_3, mkLst_4, eqV_int, eqV_str, at_0, at_1, at_2, at_3, at_4, at_5, idxV_lst, idxV_tup, cmpV, unV, itemsV, Int.reduceLT, Int.reduceEq, Int.reduceLE, decide_true, decide_false, co_within, co__law_cell_at, co__law_name, co__law_part, co_len, co_list, co_tuple, co_isinstance, co_range, ei_list, ei_tuple, ccall, sl_0, sl_1, sl_2, sl_3, sl_5, sl_7, sl_8, sl_9, sl_10, sl_11, sl_12, sl_13, hp _ (rfl : List.length [_, _, _, _, _, _] = 6), s2, within_leaf _ _ "num" (.inl rfl), cellat1, tyNm, isiT_ll, e0, retOf_ret]
  · simp only [ev_const, ev_name, ev_bin, ev_un, ev_bool, ev_cmp, ev_tuple, ev_list, ev_slice, ev_sub, ix_name, ix_const, ix_bin, ix_un, ix_call, ix_sub, ix_attr, nn_call, nn_sub, nn_attr, nn_list, nn_tup, nn_const, withBase_name, withBase_val, evo_none, evo_some, evs_nil, evs_cons, seqD_nil, seqD_cons, boolGo_one, boolGo_and, boolGo_or, ev_fn, ev_len, ev_range, ev_blist, ev_btuple, biLen_lst, biLen_tup, biLen_str, biLen_dct, exs_nil, exs_cons, thenK_next, thenK_ret, thenK_exc, thenK_brk, thenK_cont, ex_pass, ex_ret, ex_if, ex_asg, bindO_ok, bindO_exc, bindO_stuck, bnd_at, pur_at, stk_at, opt_some, opt_none, post_v, post_p, post_i, dConst, dNameM, dName, dPeek, isLoc, isGlob_eq, isG, isLocK, okNm, isSt, look_nil, look_cons, getA_nil, getA_cons, setA_nil, setA_cons, rdLoc_at, rdK_val, rdK_own, rdK_none, pkLoc_at, pkK_val, pkK_own, wrLoc_at, deref_none, deref_bool, deref_int, deref_str, deref_tup, deref_lst, deref_dct, dRet_ok, dRet_exc, dCallF_at, ofString_eq, ofString_beq, lvOf, makes, isCont, truthV, Option.map_some, Option.map_none, Bool.not_false, Bool.not_true, Bool.and_true, Bool.and_false, Bool.and_self, Bool.true_and, Bool.false_and, if_true, if_false, Bool.false_eq_true, reduceIte, reduceCtorEq, String.reduceBEq, String.reduceEq, Bool.or_true, Bool.or_false, true_or, or_true, ev_join, ev_comp, tgtLoc_name, nmLoc_name, tgtLoc_tup, scOk_eq, isLo, isFr, isCe, scG_nil, scG_cell, scG_local, scG_free, scG_gi, scG_ge, kind_fn, cap_nil, cap_free, cap_local, cap_cell, cap_gi, cap_ge, capK_val, capK_own, capK_none, capOf_nil, capOf_cons, goK_val, goK_own, goK_none, letGo_nil, letGo_cons, binV_add, binV_sub, binV_fd, binV_mod, mkTup_0, mkTup_1, mkTup_2, mkTup_3, mkTup_4, mkTup_5, mkLst_0, mkLst_1, mkLst_2, mkLst_3, mkLst_4, eqV_int, eqV_str, at_0, at_1, at_2, at_3, at_4, at_5, idxV_lst, idxV_tup, cmpV, unV, itemsV, Int.reduceLT, Int.reduceEq, Int.reduceLE, decide_true, decide_false, co_within, co__law_cell_at, co__law_name, co__law_part, co_len, co_list, co_tuple, co_isinstance, co_range, ei_list, ei_tuple, ccall, sl_0, sl_1, sl_2, sl_3, sl_5, sl_7, sl_8, sl_9, sl_10, sl_11, sl_12, sl_13, hp _ (rfl : List.length [_, _, _, _, _, _] = 6), s2, within_leaf _ _ "name" (.inr rfl), cellat1, tyNm, isiT_ll, e0, retOf_ret]
  · simp only [ev_const, ev_name, ev_bin, ev_un, ev_bool, ev_cmp, ev_tuple, ev_list, ev_slice, ev_sub, ix_name, ix_const, ix_bin, ix_un, ix_call, ix_sub, ix_attr, nn_call, nn_sub, nn_attr, nn_list, nn_tup, nn_const, withBase_name, withBase_val, evo_none, evo_some, evs_nil, evs_cons, seqD_nil, seqD_cons, boolGo_one, boolGo_and, boolGo_or, ev_fn, ev_len, ev_range, ev_blist, ev_btuple, biLen_lst, biLen_tup, biLen_str, biLen_dct, exs_nil, exs_cons, thenK_next, thenK_ret, thenK_exc, thenK_brk, thenK_cont, ex_pass, ex_ret, ex_if, ex_asg, bindO_ok, bindO_exc, bindO_stuck, bnd_at, pur_at, stk_at, opt_some, opt_none, post_v, post_p, post_i, dConst, dNameM, dName, dPeek, isLoc, isGlob_eq, isG, isLocK, okNm, isSt, look_nil, look_cons, getA_nil, getA_cons, setA_nil, setA_cons, rdLoc_at, rdK_val, rdK_own, rdK_none, pkLoc_at, pkK_val, pkK_own, wrLoc_at, deref_none, deref_bool, deref_int, deref_str, deref_tup, deref_lst, deref_dct, dRet_ok, dRet_exc, dCallF_at, ofString_eq, ofString_beq, lvOf, makes, isCont, truthV, Option.map_some, Option.map_none, Bool.not_false, Bool.not_true, Bool.and_true, Bool.and_false, Bool.and_self, Bool.true_and, Bool.false_and, if_true, if_false, Bool.false_eq_true, reduceIte, reduceCtorEq, String.reduceBEq, String.reduceEq, Bool.or_true, Bool.or_false, true_or, or_true, ev_join, ev_comp, tgtLoc_name, nmLoc_name, tgtLoc_tup, scOk_eq, isLo, isFr, isCe, scG_nil, scG_cell, scG_local, scG_free, scG_gi, scG_ge, kind_fn, cap_nil, cap_free, cap_local, cap_cell, cap_gi, cap_ge, capK_val, capK_own, capK_none, capOf_nil, capOf_cons, goK_val, goK_own, goK_none, letGo_nil, letGo_cons, binV_add, binV_sub, binV_fd, binV_mod, mkTup_0, mkTup_1, mkTup_2, mkTup_3, mkTup_4, mkTup_5, mkLst_0, mkLst_1, mkLst_2, mkLst_3, mkLst_4, eqV_int, eqV_str, at_0, at_1, at_2, at_3, at_4, at_5, idxV_lst, idxV_tup, cmpV, unV, itemsV, Int.reduceLT, Int.reduceEq, Int.reduceLE, decide_true, decide_false, co_within, co__law_cell_at, co__law_name, co__law_part, co_len, co_list, co_tuple, co_isinstance, co_range, ei_list, ei_tuple, ccall, sl_0, sl_1, sl_2, sl_3, sl_5, sl_7, sl_8, sl_9, sl_10, sl_11, sl_12, sl_13, hp _ (rfl : List.length [_, _, _, _, _, _] = 6), s2, within_deed _ _ "sum" (by simp) _ z2, tyNm, isiT_ll, e2, retOf_ret]
  · simp only [ev_const, ev_name, ev_bin, ev_un, ev_bool, ev_cmp, ev_tuple, ev_list, ev_slice, ev_sub, ix_name, ix_const, ix_bin, ix_un, ix_call, ix_sub, ix_attr, nn_call, nn_sub, nn_attr, nn_list, nn_tup, nn_const, withBase_name, withBase_val, evo_none, evo_some, evs_nil, evs_cons, seqD_nil, seqD_cons, boolGo_one, boolGo_and, boolGo_or, ev_fn, ev_len, ev_range, ev_blist, ev_btuple, biLen_lst, biLen_tup, biLen_str, biLen_dct, exs_nil, exs_cons, thenK_next, thenK_ret, thenK_exc, thenK_brk, thenK_cont, ex_pass, ex_ret, ex_if, ex_asg, bindO_ok, bindO_exc, bindO_stuck, bnd_at, pur_at, stk_at, opt_some, opt_none, post_v, post_p, post_i, dConst, dNameM, dName, dPeek, isLoc, isGlob_eq, isG, isLocK, okNm, isSt, look_nil, look_cons, getA_nil, getA_cons, setA_nil, setA_cons, rdLoc_at, rdK_val, rdK_own, rdK_none, pkLoc_at, pkK_val, pkK_own, wrLoc_at, deref_none, deref_bool, deref_int, deref_str, deref_tup, deref_lst, deref_dct, dRet_ok, dRet_exc, dCallF_at, ofString_eq, ofString_beq, lvOf, makes, isCont, truthV, Option.map_some, Option.map_none, Bool.not_false, Bool.not_true, Bool.and_true, Bool.and_false, Bool.and_self, Bool.true_and, Bool.false_and, if_true, if_false, Bool.false_eq_true, reduceIte, reduceCtorEq, String.reduceBEq, String.reduceEq, Bool.or_true, Bool.or_false, true_or, or_true, ev_join, ev_comp, tgtLoc_name, nmLoc_name, tgtLoc_tup, scOk_eq, isLo, isFr, isCe, scG_nil, scG_cell, scG_local, scG_free, scG_gi, scG_ge, kind_fn, cap_nil, cap_free, cap_local, cap_cell, cap_gi, cap_ge, capK_val, capK_own, capK_none, capOf_nil, capOf_cons, goK_val, goK_own, goK_none, letGo_nil, letGo_cons, binV_add, binV_sub, binV_fd, binV_mod, mkTup_0, mkTup_1, mkTup_2, mkTup_3, mkTup_4, mkTup_5, mkLst_0, mkLst_1, mkLst_2, mkLst_3, mkLst_4, eqV_int, eqV_str, at_0, at_1, at_2, at_3, at_4, at_5, idxV_lst, idxV_tup, cmpV, unV, itemsV, Int.reduceLT, Int.reduceEq, Int.reduceLE, decide_true, decide_false, co_within, co__law_cell_at, co__law_name, co__law_part, co_len, co_list, co_tuple, co_isinstance, co_range, ei_list, ei_tuple, ccall, sl_0, sl_1, sl_2, sl_3, sl_5, sl_7, sl_8, sl_9, sl_10, sl_11, sl_12, sl_13, hp _ (rfl : List.length [_, _, _, _, _, _] = 6), s2, within_deed _ _ "less" (by simp) _ z2, tyNm, isiT_ll, e2, retOf_ret]
  · simp only [ev_const, ev_name, ev_bin, ev_un, ev_bool, ev_cmp, ev_tuple, ev_list, ev_slice, ev_sub, ix_name, ix_const, ix_bin, ix_un, ix_call, ix_sub, ix_attr, nn_call, nn_sub, nn_attr, nn_list, nn_tup, nn_const, withBase_name, withBase_val, evo_none, evo_some, evs_nil, evs_cons, seqD_nil, seqD_cons, boolGo_one, boolGo_and, boolGo_or, ev_fn, ev_len, ev_range, ev_blist, ev_btuple, biLen_lst, biLen_tup, biLen_str, biLen_dct, exs_nil, exs_cons, thenK_next, thenK_ret, thenK_exc, thenK_brk, thenK_cont, ex_pass, ex_ret, ex_if, ex_asg, bindO_ok, bindO_exc, bindO_stuck, bnd_at, pur_at, stk_at, opt_some, opt_none, post_v, post_p, post_i, dConst, dNameM, dName, dPeek, isLoc, isGlob_eq, isG, isLocK, okNm, isSt, look_nil, look_cons, getA_nil, getA_cons, setA_nil, setA_cons, rdLoc_at, rdK_val, rdK_own, rdK_none, pkLoc_at, pkK_val, pkK_own, wrLoc_at, deref_none, deref_bool, deref_int, deref_str, deref_tup, deref_lst, deref_dct, dRet_ok, dRet_exc, dCallF_at, ofString_eq, ofString_beq, lvOf, makes, isCont, truthV, Option.map_some, Option.map_none, Bool.not_false, Bool.not_true, Bool.and_true, Bool.and_false, Bool.and_self, Bool.true_and, Bool.false_and, if_true, if_false, Bool.false_eq_true, reduceIte, reduceCtorEq, String.reduceBEq, String.reduceEq, Bool.or_true, Bool.or_false, true_or, or_true, ev_join, ev_comp, tgtLoc_name, nmLoc_name, tgtLoc_tup, scOk_eq, isLo, isFr, isCe, scG_nil, scG_cell, scG_local, scG_free, scG_gi, scG_ge, kind_fn, cap_nil, cap_free, cap_local, cap_cell, cap_gi, cap_ge, capK_val, capK_own, capK_none, capOf_nil, capOf_cons, goK_val, goK_own, goK_none, letGo_nil, letGo_cons, binV_add, binV_sub, binV_fd, binV_mod, mkTup_0, mkTup_1, mkTup_2, mkTup_3, mkTup_4, mkTup_5, mkLst_0, mkLst_1, mkLst_2, mkLst_3, mkLst_4, eqV_int, eqV_str, at_0, at_1, at_2, at_3, at_4, at_5, idxV_lst, idxV_tup, cmpV, unV, itemsV, Int.reduceLT, Int.reduceEq, Int.reduceLE, decide_true, decide_false, co_within, co__law_cell_at, co__law_name, co__law_part, co_len, co_list, co_tuple, co_isinstance, co_range, ei_list, ei_tuple, ccall, sl_0, sl_1, sl_2, sl_3, sl_5, sl_7, sl_8, sl_9, sl_10, sl_11, sl_12, sl_13, hp _ (rfl : List.length [_, _, _, _, _, _] = 6), s2, within_deed _ _ "times" (by simp) _ z2, tyNm, isiT_ll, e2, retOf_ret]
  · simp only [ev_const, ev_name, ev_bin, ev_un, ev_bool, ev_cmp, ev_tuple, ev_list, ev_slice, ev_sub, ix_name, ix_const, ix_bin, ix_un, ix_call, ix_sub, ix_attr, nn_call, nn_sub, nn_attr, nn_list, nn_tup, nn_const, withBase_name, withBase_val, evo_none, evo_some, evs_nil, evs_cons, seqD_nil, seqD_cons, boolGo_one, boolGo_and, boolGo_or, ev_fn, ev_len, ev_range, ev_blist, ev_btuple, biLen_lst, biLen_tup, biLen_str, biLen_dct, exs_nil, exs_cons, thenK_next, thenK_ret, thenK_exc, thenK_brk, thenK_cont, ex_pass, ex_ret, ex_if, ex_asg, bindO_ok, bindO_exc, bindO_stuck, bnd_at, pur_at, stk_at, opt_some, opt_none, post_v, post_p, post_i, dConst, dNameM, dName, dPeek, isLoc, isGlob_eq, isG, isLocK, okNm, isSt, look_nil, look_cons, getA_nil, getA_cons, setA_nil, setA_cons, rdLoc_at, rdK_val, rdK_own, rdK_none, pkLoc_at, pkK_val, pkK_own, wrLoc_at, deref_none, deref_bool, deref_int, deref_str, deref_tup, deref_lst, deref_dct, dRet_ok, dRet_exc, dCallF_at, ofString_eq, ofString_beq, lvOf, makes, isCont, truthV, Option.map_some, Option.map_none, Bool.not_false, Bool.not_true, Bool.and_true, Bool.and_false, Bool.and_self, Bool.true_and, Bool.false_and, if_true, if_false, Bool.false_eq_true, reduceIte, reduceCtorEq, String.reduceBEq, String.reduceEq, Bool.or_true, Bool.or_false, true_or, or_true, ev_join, ev_comp, tgtLoc_name, nmLoc_name, tgtLoc_tup, scOk_eq, isLo, isFr, isCe, scG_nil, scG_cell, scG_local, scG_free, scG_gi, scG_ge, kind_fn, cap_nil, cap_free, cap_local, cap_cell, cap_gi, cap_ge, capK_val, capK_own, capK_none, capOf_nil, capOf_cons, goK_val, goK_own, goK_none, letGo_nil, letGo_cons, binV_add, binV_sub, binV_fd, binV_mod, mkTup_0, mkTup_1, mkTup_2, mkTup_3, mkTup_4, mkTup_5, mkLst_0, mkLst_1, mkLst_2, mkLst_3, mkLst_4, eqV_int, eqV_str, at_0, at_1, at_2, at_3, at_4, at_5, idxV_lst, idxV_tup, cmpV, unV, itemsV, Int.reduceLT, Int.reduceEq, Int.reduceLE, decide_true, decide_false, co_within, co__law_cell_at, co__law_name, co__law_part, co_len, co_list, co_tuple, co_isinstance, co_range, ei_list, ei_tuple, ccall, sl_0, sl_1, sl_2, sl_3, sl_5, sl_7, sl_8, sl_9, sl_10, sl_11, sl_12, sl_13, hp _ (rfl : List.length [_, _, _, _, _, _] = 6), s2, within_deed _ _ "part" (by simp) _ z2, tyNm, isiT_ll, e2, retOf_ret]
  · simp only [ev_const, ev_name, ev_bin, ev_un, ev_bool, ev_cmp, ev_tuple, ev_list, ev_slice, ev_sub, ix_name, ix_const, ix_bin, ix_un, ix_call, ix_sub, ix_attr, nn_call, nn_sub, nn_attr, nn_list, nn_tup, nn_const, withBase_name, withBase_val, evo_none, evo_some, evs_nil, evs_cons, seqD_nil, seqD_cons, boolGo_one, boolGo_and, boolGo_or, ev_fn, ev_len, ev_range, ev_blist, ev_btuple, biLen_lst, biLen_tup, biLen_str, biLen_dct, exs_nil, exs_cons, thenK_next, thenK_ret, thenK_exc, thenK_brk, thenK_cont, ex_pass, ex_ret, ex_if, ex_asg, bindO_ok, bindO_exc, bindO_stuck, bnd_at, pur_at, stk_at, opt_some, opt_none, post_v, post_p, post_i, dConst, dNameM, dName, dPeek, isLoc, isGlob_eq, isG, isLocK, okNm, isSt, look_nil, look_cons, getA_nil, getA_cons, setA_nil, setA_cons, rdLoc_at, rdK_val, rdK_own, rdK_none, pkLoc_at, pkK_val, pkK_own, wrLoc_at, deref_none, deref_bool, deref_int, deref_str, deref_tup, deref_lst, deref_dct, dRet_ok, dRet_exc, dCallF_at, ofString_eq, ofString_beq, lvOf, makes, isCont, truthV, Option.map_some, Option.map_none, Bool.not_false, Bool.not_true, Bool.and_true, Bool.and_false, Bool.and_self, Bool.true_and, Bool.false_and, if_true, if_false, Bool.false_eq_true, reduceIte, reduceCtorEq, String.reduceBEq, String.reduceEq, Bool.or_true, Bool.or_false, true_or, or_true, ev_join, ev_comp, tgtLoc_name, nmLoc_name, tgtLoc_tup, scOk_eq, isLo, isFr, isCe, scG_nil, scG_cell, scG_local, scG_free, scG_gi, scG_ge, kind_fn, cap_nil, cap_free, cap_local, cap_cell, cap_gi, cap_ge, capK_val, capK_own, capK_none, capOf_nil, capOf_cons, goK_val, goK_own, goK_none, letGo_nil, letGo_cons, binV_add, binV_sub, binV_fd, binV_mod, mkTup_0, mkTup_1, mkTup_2, mkTup_3, mkTup_4, mkTup_5, mkLst_0, mkLst_1, mkLst_2, mkLst_3, mkLst_4, eqV_int, eqV_str, at_0, at_1, at_2, at_3, at_4, at_5, idxV_lst, idxV_tup, cmpV, unV, itemsV, Int.reduceLT, Int.reduceEq, Int.reduceLE, decide_true, decide_false, co_within, co__law_cell_at, co__law_name, co__law_part, co_len, co_list, co_tuple, co_isinstance, co_range, ei_list, ei_tuple, ccall, sl_0, sl_1, sl_2, sl_3, sl_5, sl_7, sl_8, sl_9, sl_10, sl_11, sl_12, sl_13, hp _ (rfl : List.length [_, _, _, _, _, _] = 6), s2, within_deed _ _ "below" (by simp) _ z2, tyNm, isiT_ll, e2, retOf_ret]
  · simp only [ev_const, ev_name, ev_bin, ev_un, ev_bool, ev_cmp, ev_tuple, ev_list, ev_slice, ev_sub, ix_name, ix_const, ix_bin, ix_un, ix_call, ix_sub, ix_attr, nn_call, nn_sub, nn_attr, nn_list, nn_tup, nn_const, withBase_name, withBase_val, evo_none, evo_some, evs_nil, evs_cons, seqD_nil, seqD_cons, boolGo_one, boolGo_and, boolGo_or, ev_fn, ev_len, ev_range, ev_blist, ev_btuple, biLen_lst, biLen_tup, biLen_str, biLen_dct, exs_nil, exs_cons, thenK_next, thenK_ret, thenK_exc, thenK_brk, thenK_cont, ex_pass, ex_ret, ex_if, ex_asg, bindO_ok, bindO_exc, bindO_stuck, bnd_at, pur_at, stk_at, opt_some, opt_none, post_v, post_p, post_i, dConst, dNameM, dName, dPeek, isLoc, isGlob_eq, isG, isLocK, okNm, isSt, look_nil, look_cons, getA_nil, getA_cons, setA_nil, setA_cons, rdLoc_at, rdK_val, rdK_own, rdK_none, pkLoc_at, pkK_val, pkK_own, wrLoc_at, deref_none, deref_bool, deref_int, deref_str, deref_tup, deref_lst, deref_dct, dRet_ok, dRet_exc, dCallF_at, ofString_eq, ofString_beq, lvOf, makes, isCont, truthV, Option.map_some, Option.map_none, Bool.not_false, Bool.not_true, Bool.and_true, Bool.and_false, Bool.and_self, Bool.true_and, Bool.false_and, if_true, if_false, Bool.false_eq_true, reduceIte, reduceCtorEq, String.reduceBEq, String.reduceEq, Bool.or_true, Bool.or_false, true_or, or_true, ev_join, ev_comp, tgtLoc_name, nmLoc_name, tgtLoc_tup, scOk_eq, isLo, isFr, isCe, scG_nil, scG_cell, scG_local, scG_free, scG_gi, scG_ge, kind_fn, cap_nil, cap_free, cap_local, cap_cell, cap_gi, cap_ge, capK_val, capK_own, capK_none, capOf_nil, capOf_cons, goK_val, goK_own, goK_none, letGo_nil, letGo_cons, binV_add, binV_sub, binV_fd, binV_mod, mkTup_0, mkTup_1, mkTup_2, mkTup_3, mkTup_4, mkTup_5, mkLst_0, mkLst_1, mkLst_2, mkLst_3, mkLst_4, eqV_int, eqV_str, at_0, at_1, at_2, at_3, at_4, at_5, idxV_lst, idxV_tup, cmpV, unV, itemsV, Int.reduceLT, Int.reduceEq, Int.reduceLE, decide_true, decide_false, co_within, co__law_cell_at, co__law_name, co__law_part, co_len, co_list, co_tuple, co_isinstance, co_range, ei_list, ei_tuple, ccall, sl_0, sl_1, sl_2, sl_3, sl_5, sl_7, sl_8, sl_9, sl_10, sl_11, sl_12, sl_13, hp _ (rfl : List.length [_, _, _, _, _, _] = 6), s2, s3, within_deed _ _ "choose" (by simp) _ z3, tyNm, isiT_ll, e3, retOf_ret]
  · simp only [ev_const, ev_name, ev_bin, ev_un, ev_bool, ev_cmp, ev_tuple, ev_list, ev_slice, ev_sub, ix_name, ix_const, ix_bin, ix_un, ix_call, ix_sub, ix_attr, nn_call, nn_sub, nn_attr, nn_list, nn_tup, nn_const, withBase_name, withBase_val, evo_none, evo_some, evs_nil, evs_cons, seqD_nil, seqD_cons, boolGo_one, boolGo_and, boolGo_or, ev_fn, ev_len, ev_range, ev_blist, ev_btuple, biLen_lst, biLen_tup, biLen_str, biLen_dct, exs_nil, exs_cons, thenK_next, thenK_ret, thenK_exc, thenK_brk, thenK_cont, ex_pass, ex_ret, ex_if, ex_asg, bindO_ok, bindO_exc, bindO_stuck, bnd_at, pur_at, stk_at, opt_some, opt_none, post_v, post_p, post_i, dConst, dNameM, dName, dPeek, isLoc, isGlob_eq, isG, isLocK, okNm, isSt, look_nil, look_cons, getA_nil, getA_cons, setA_nil, setA_cons, rdLoc_at, rdK_val, rdK_own, rdK_none, pkLoc_at, pkK_val, pkK_own, wrLoc_at, deref_none, deref_bool, deref_int, deref_str, deref_tup, deref_lst, deref_dct, dRet_ok, dRet_exc, dCallF_at, ofString_eq, ofString_beq, lvOf, makes, isCont, truthV, Option.map_some, Option.map_none, Bool.not_false, Bool.not_true, Bool.and_true, Bool.and_false, Bool.and_self, Bool.true_and, Bool.false_and, if_true, if_false, Bool.false_eq_true, reduceIte, reduceCtorEq, String.reduceBEq, String.reduceEq, Bool.or_true, Bool.or_false, true_or, or_true, ev_join, ev_comp, tgtLoc_name, nmLoc_name, tgtLoc_tup, scOk_eq, isLo, isFr, isCe, scG_nil, scG_cell, scG_local, scG_free, scG_gi, scG_ge, kind_fn, cap_nil, cap_free, cap_local, cap_cell, cap_gi, cap_ge, capK_val, capK_own, capK_none, capOf_nil, capOf_cons, goK_val, goK_own, goK_none, letGo_nil, letGo_cons, binV_add, binV_sub, binV_fd, binV_mod, mkTup_0, mkTup_1, mkTup_2, mkTup_3, mkTup_4, mkTup_5, mkLst_0, mkLst_1, mkLst_2, mkLst_3, mkLst_4, eqV_int, eqV_str, at_0, at_1, at_2, at_3, at_4, at_5, idxV_lst, idxV_tup, cmpV, unV, itemsV, Int.reduceLT, Int.reduceEq, Int.reduceLE, decide_true, decide_false, co_within, co__law_cell_at, co__law_name, co__law_part, co_len, co_list, co_tuple, co_isinstance, co_range, ei_list, ei_tuple, ccall, sl_0, sl_1, sl_2, sl_3, sl_5, sl_7, sl_8, sl_9, sl_10, sl_11, sl_12, sl_13, hp _ (rfl : List.length [_, _, _, _, _, _] = 6), s2, within_let, tyNm, isiT_ll, e2, retOf_ret]
  · simp only [ev_const, ev_name, ev_bin, ev_un, ev_bool, ev_cmp, ev_tuple, ev_list, ev_slice, ev_sub, ix_name, ix_const, ix_bin, ix_un, ix_call, ix_sub, ix_attr, nn_call, nn_sub, nn_attr, nn_list, nn_tup, nn_const, withBase_name, withBase_val, evo_none, evo_some, evs_nil, evs_cons, seqD_nil, seqD_cons, boolGo_one, boolGo_and, boolGo_or, ev_fn, ev_len, ev_range, ev_blist, ev_btuple, biLen_lst, biLen_tup, biLen_str, biLen_dct, exs_nil, exs_cons, thenK_next, thenK_ret, thenK_exc, thenK_brk, thenK_cont, ex_pass, ex_ret, ex_if, ex_asg, bindO_ok, bindO_exc, bindO_stuck, bnd_at, pur_at, stk_at, opt_some, opt_none, post_v, post_p, post_i, dConst, dNameM, dName, dPeek, isLoc, isGlob_eq, isG, isLocK, okNm, isSt, look_nil, look_cons, getA_nil, getA_cons, setA_nil, setA_cons, rdLoc_at, rdK_val, rdK_own, rdK_none, pkLoc_at, pkK_val, pkK_own, wrLoc_at, deref_none, deref_bool, deref_int, deref_str, deref_tup, deref_lst, deref_dct, dRet_ok, dRet_exc, dCallF_at, ofString_eq, ofString_beq, lvOf, makes, isCont, truthV, Option.map_some, Option.map_none, Bool.not_false, Bool.not_true, Bool.and_true, Bool.and_false, Bool.and_self, Bool.true_and, Bool.false_and, if_true, if_false, Bool.false_eq_true, reduceIte, reduceCtorEq, String.reduceBEq, String.reduceEq, Bool.or_true, Bool.or_false, true_or, or_true, ev_join, ev_comp, tgtLoc_name, nmLoc_name, tgtLoc_tup, scOk_eq, isLo, isFr, isCe, scG_nil, scG_cell, scG_local, scG_free, scG_gi, scG_ge, kind_fn, cap_nil, cap_free, cap_local, cap_cell, cap_gi, cap_ge, capK_val, capK_own, capK_none, capOf_nil, capOf_cons, goK_val, goK_own, goK_none, letGo_nil, letGo_cons, binV_add, binV_sub, binV_fd, binV_mod, mkTup_0, mkTup_1, mkTup_2, mkTup_3, mkTup_4, mkTup_5, mkLst_0, mkLst_1, mkLst_2, mkLst_3, mkLst_4, eqV_int, eqV_str, at_0, at_1, at_2, at_3, at_4, at_5, idxV_lst, idxV_tup, cmpV, unV, itemsV, Int.reduceLT, Int.reduceEq, Int.reduceLE, decide_true, decide_false, co_within, co__law_cell_at, co__law_name, co__law_part, co_len, co_list, co_tuple, co_isinstance, co_range, ei_list, ei_tuple, ccall, sl_0, sl_1, sl_2, sl_3, sl_5, sl_7, sl_8, sl_9, sl_10, sl_11, sl_12, sl_13, hp _ (rfl : List.length [_, _, _, _, _, _] = 6), s2, s7, cellat8, biV, mkTup_le l7, within_call _ _ _ _ l7, tyNm, isiT_ll, e7, retOf_ret]
theorem pure02 (ns : List Int) (h : ns.length ≤ 63) : ∃ st, callN P02 0 100 ⟨#[]⟩ "law" [.lst (ns.map .int)] [] = .ok (.bool true) st := ⟨[], law02 97 ns⟩
end Mine
end
open PySem PySem.W PyProof.Rows
set_option maxRecDepth 100000 in
set_option maxHeartbeats 8000000 in
theorem PySem.Challenge.cw_uf030011_02_holds : PySem.Challenge.rw_uf030011_02.Holds := by
  w_on; o_law; o_head Hook.none; (case hw => w_witness2)
  w_strict (
    intro w s₀ s₁ mg mb G Y fa o pm cd doc dV kV ho hd hcd hD hmg hg args vals as hpre hlay hrd hwl hlo
    clear hd hcd hD
    have hmg' : mg "law" = some (.ref fa) := hmg
    clear hmg
    have T := G.T
    clear G Y
    wrow_args hpre hlay hrd hwl hlo
    rename_i ns hs hlay0 hL1 hr1 hl2 as1 as2 sa its as3 hL ra w1 r0 hI hr hcond hcond2
    have hso : s₁.heap.get? sa = some { cls := .type "list", data := .seq its.toArray } := by
      cases w1 with
      | list h1 h2 =>
        obtain ⟨o', e1, _, m, e2⟩ := hL
        rw [h1] at e1; cases e1
        simp only [Data.seq.injEq] at e2
        rw [h1, e2.1]
    have hlen : ns.length ≤ 63 := by omega
    obtain ⟨st, hrun⟩ := Mine.pure02 ns hlen
    refine Mine.run_law (P := Mine.P02) (k := 0) (n := 100) T ?_ ?_ ?_ ?_ hmg' hso hI hlen (by omega) hrun fun s' hk hos hgens => ?_
    · rfl
    · decide +kernel
    · intro x av h; cases h
    · decide +kernel
    · refine GoodW.toG ⟨.inl ⟨_, .bool true, [], rfl, ?_, ?_, ?_, ?_⟩, hk, hos, hgens.trans hg⟩
      · intro cls; rfl
      · exact .bool true
      · wrow_post
      · exact fun _ => ⟨.nil, fun _ h => nomatch h⟩)

