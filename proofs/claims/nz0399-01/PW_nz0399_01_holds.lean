import PyProof.Rows.All
import Wide.All
import OpenK.AllK
import Wide.FinOn
import KE.KSuper
import PyProof.EnumMake
import PyProof.Draws
import PyProof.ZipIter
import PyProof.SliceMore
import Lean
import PySem.Challenge.RW_nz0399_01
open PySem PySem.W PyProof.Rows PySem.Calls
set_option Elab.async false
set_option maxRecDepth 1000000
set_option maxHeartbeats 8000000
set_option linter.unusedVariables false
set_option linter.unusedSimpArgs false
set_option genSizeOf false
set_option genInjectivity false
-- A1
namespace Mine
/-- trees: what a value is, told without a heap -/
inductive D where
  | none
  | bool (b : Bool)
  | int (i : Int)
  | str (s : Str)
  | tup (l : List D)
  | lst (l : List D)
  | dct (l : List (Str × D))
  | obj (C : Addr) (l : List (Str × D))
  | feed
noncomputable abbrev Vars := List (Str × Bool × D)
noncomputable abbrev Kinds := List (Str × NameKind)
/-- what callees hand back: a function's name, its arguments, the draws made so far -/
noncomputable abbrev Cl := Str → List D → Nat → Option (D × Nat)
structure Tb where
  cells : List Int
  mix : Int
  fns : List Str
  glob : List (Str × D)
  meth : Addr → Str → Option Str
  attr : Addr → Str → Bool
/-- a computation that calls: what it asks of the callees is seen -/
inductive M (α : Type) : Type
  | ret (a : α)
  | fail
  | ask (b : Bool) (c : M α)
  | test (b : Bool) (c d : M α)
  | part (o : Option D) (c : D → M α)
  | opt (o : Option D) (c : D → M α)
  | call (key : Str) (ds : List D) (k : Nat) (c : D × Nat → M α)
  | sub (o : Cl → Option (List D × Nat)) (c : List D × Nat → M α)
noncomputable def M.bind {α β : Type} : M α → (α → M β) → M β
  | .ret a, f => f a
  | .fail, _ => .fail
  | .ask b c, f => .ask b (c.bind f)
  | .test b c d, f => .test b (c.bind f) (d.bind f)
  | .part o c, f => .part o fun r => (c r).bind f
  | .opt o c, f => .opt o fun r => (c r).bind f
  | .call key ds k c, f => .call key ds k fun r => (c r).bind f
  | .sub o c, f => .sub o fun r => (c r).bind f
noncomputable def M.run {α : Type} (cl : Cl) : M α → Option α
  | .ret a => some a
  | .fail => none
  | .ask b c => cond b (c.run cl) none
  | .test b c d => cond b (c.run cl) (d.run cl)
  | .part o c => o.bind fun r => (c r).run cl
  | .opt o c => o.bind fun r => (c r).run cl
  | .call key ds k c => (cl key ds k).bind fun r => (c r).run cl
  | .sub o c => (o cl).bind fun r => (c r).run cl
noncomputable def M.lift {α : Type} : Option α → M α
  | some a => .ret a
  | none => .fail
/-- under a lid that the text alone decides -/
noncomputable def M.gd {α : Type} (b : Bool) (m : M α) : M α := cond b m .fail

/-! texts and names -/
noncomputable def isLoc (sc : Kinds) (x : Str) : Bool := (sc.lookup x == some .local || sc.lookup x == some .cell) && !(x == (⟨#[95, 95, 100, 101, 98, 117, 103, 95, 95]⟩ : Str)) && !(x == (⟨#[46, 48]⟩ : Str))
noncomputable def isGlob (sc : Kinds) (x : Str) : Bool := sc.lookup x == some .globalImplicit && !(x == (⟨#[95, 95, 100, 101, 98, 117, 103, 95, 95]⟩ : Str))
noncomputable def vset (x : Str) (o : Bool) (d : D) : Vars → Vars
  | [] => [(x, o, d)]
  | (y, p) :: r => if y = x then (x, o, d) :: r else (y, p) :: vset x o d r
noncomputable def dset (x : Str) (d : D) : List (Str × D) → List (Str × D)
  | [] => [(x, d)]
  | (y, p) :: r => if y = x then (x, d) :: r else (y, p) :: dset x d r
noncomputable def ownNames : List Str := [(⟨#[102, 111, 117, 110, 100]⟩ : Str), (⟨#[114, 101, 115, 116]⟩ : Str), (⟨#[108, 101, 102, 116]⟩ : Str), (⟨#[108, 111, 116, 115]⟩ : Str), (⟨#[105, 116, 101, 109, 115]⟩ : Str), (⟨#[115, 116, 97, 110, 100, 115]⟩ : Str), (⟨#[100, 117, 101]⟩ : Str), (⟨#[112, 108, 97, 110]⟩ : Str), (⟨#[117, 110, 100, 101, 114]⟩ : Str), (⟨#[109, 97, 115, 107, 115]⟩ : Str), (⟨#[119, 97, 105, 116, 105, 110, 103]⟩ : Str)]
noncomputable def freezeAll (vs : Vars) : Vars := vs.map fun q => (q.1, false, q.2.2)
noncomputable def freezeNames (xs : List Str) (vs : Vars) : Vars := vs.map fun q => (q.1, q.2.1 && !xs.contains q.1, q.2.2)
noncomputable def nameOf : Expr → Option Str
  | .Name x _ => some x
  | _ => none
noncomputable def strOf : Expr → Option Str
  | .Constant (.str s) _ _ => some s
  | _ => none
/-- names that stand as a call's own arguments -/
noncomputable def callArgs : Expr → List Str
  | .Call f args _ _ => if (nameOf f).isSome then args.filterMap nameOf else []
  | _ => []
noncomputable def callArgNames : Expr → List Str
  | .Compare l _ _ _ => callArgs l
  | e => callArgs e
/-- at most this many items in a list that is made -/
noncomputable def lim : Nat := 4096
noncomputable def small (i : Int) : Bool := decide (-4096 ≤ i) && decide (i ≤ 4096)

/-! trees taken apart -/
noncomputable def asB : D → M Bool
  | .bool b => .ret b
  | _ => .fail
noncomputable def asI : D → M Int
  | .int i => .ret i
  | _ => .fail
noncomputable def asS : D → M Str
  | .str s => .ret s
  | _ => .fail
/-- a list's or a tuple's items -/
noncomputable def asL : D → M (List D)
  | .lst l => .ret l
  | .tup l => .ret l
  | _ => .fail
noncomputable def asLst : D → M (List D)
  | .lst l => .ret l
  | _ => .fail
noncomputable def asTup : D → M (List D)
  | .tup l => .ret l
  | _ => .fail
noncomputable def asObj : D → M (Addr × List (Str × D))
  | .obj C l => .ret (C, l)
  | _ => .fail

/-! operators -/
noncomputable def int2 {α : Type} (a b : D) (F : Int → Int → M α) : M α := (asI a).bind fun i => (asI b).bind fun j => F i j
noncomputable def addM (a b : D) : M (Bool × D) := match a with
  | .int i => (asI b).bind fun j => .ret (false, .int (i + j))
  | .str x => (asS b).bind fun y => .ask (decide (x.length + y.length ≤ lim)) (.ret (false, .str (x ++ y)))
  | .lst x => (asLst b).bind fun y => .ask (decide (x.length + y.length ≤ lim)) (.ret (true, .lst (x ++ y)))
  | .tup x => (asTup b).bind fun y => .ask (decide (x.length + y.length ≤ lim)) (.ret (false, .tup (x ++ y)))
  | _ => .fail
noncomputable def mulM (a b : D) : M (Bool × D) := match a with
  | .int i => (asI b).bind fun j => .ask (small i && small j) (.ret (false, .int (i * j)))
  | .lst l => (asI b).bind fun n => .ask (decide (l.length ≤ 64) && decide (0 ≤ n) && decide (n ≤ 64)) (.ret (true, .lst (List.replicate n.toNat l).flatten))
  | _ => .fail
noncomputable def binM (op : Operator) (a b : D) : M (Bool × D) := match op with
  | .Add => addM a b
  | .Sub => int2 a b fun i j => .ret (false, .int (i - j))
  | .Mult => mulM a b
  | .Mod => int2 a b fun i j => .ask (!(j == 0)) (.ret (false, .int (i.fmod j)))
  | .FloorDiv => int2 a b fun i j => .ask (small i && small j && decide (0 < j)) (.ret (false, .int (i.fdiv j)))
  | .LShift => int2 a b fun i j => .ask (small i && decide (0 ≤ j) && decide (j ≤ 64)) (.ret (false, .int (i * 2 ^ j.toNat)))
  | .RShift => int2 a b fun i j => .ask (decide (0 ≤ j)) (.ret (false, .int (i.fdiv (2 ^ j.toNat))))
  | .BitAnd => int2 a b fun i j => .ret (false, .int (Builtin.bitAnd i j))
  | .BitOr => int2 a b fun i j => .ret (false, .int (Builtin.bitOr i j))
  | _ => .fail
noncomputable def strD : D → Option Str
  | .str x => some x
  | _ => none
noncomputable def boolD : D → Option Bool
  | .bool x => some x
  | _ => none
noncomputable def allOf {α : Type} (f : D → Option α) : List D → Option (List α)
  | [] => some []
  | d :: r => (f d).bind fun x => (allOf f r).map (x :: ·)
noncomputable def allStr : List D → Option (List Str) := allOf strD
noncomputable def allBool : List D → Option (List Bool) := allOf boolD
/-- two sequences of texts -/
noncomputable def eqStrs (a b : List D) : Option Bool := (allStr a).bind fun x => (allStr b).map fun y => decide (x = y)
/-- two lists: of unlike lengths, or of texts -/
noncomputable def eqSeq (a b : List D) : Option Bool := if a.length = b.length then eqStrs a b else some false
/-- two tuples: one empty, or of texts -/
noncomputable def eqTup (a b : List D) : Option Bool := if a.length = 0 ∨ b.length = 0 then some (a.length == b.length) else eqStrs a b
noncomputable def intD : D → Option Int
  | .int i => some i
  | _ => none
noncomputable def lstD : D → Option (List D)
  | .lst l => some l
  | _ => none
noncomputable def tupD : D → Option (List D)
  | .tup l => some l
  | _ => none
noncomputable def eqD (a b : D) : Option Bool := match a with
  | .int i => (intD b).map fun j => i == j
  | .str x => (strD b).map fun y => x == y
  | .bool x => (boolD b).map fun y => x == y
  | .lst x => (lstD b).bind fun y => eqSeq x y
  | .tup x => (tupD b).bind fun y => eqTup x y
  | _ => none
noncomputable def inStr (x : Str) (b : D) : Option Bool := match b with
  | .lst l => (allStr l).map fun ys => ys.any (· == x)
  | .tup l => (allStr l).map fun ys => ys.any (· == x)
  | .dct l => some (l.lookup x).isSome
  | _ => none
noncomputable def inD (a b : D) : Option Bool := match a with
  | .str x => inStr x b
  | .bool x => (lstD b).bind fun l => (allBool l).map fun ys => ys.any (· == x)
  | _ => none
noncomputable def ordD (F : Int → Int → Bool) (a b : D) : Option Bool := (intD a).bind fun i => (intD b).map fun j => F i j
noncomputable def cmpD (op : CmpOp) (a b : D) : Option Bool := match op with
  | .Eq => eqD a b
  | .NotEq => (eqD a b).map (!·)
  | .In => inD a b
  | .NotIn => (inD a b).map (!·)
  | .Lt => ordD (fun i j => decide (i < j)) a b
  | .Gt => ordD (fun i j => decide (j < i)) a b
  | .LtE => ordD (fun i j => decide (i ≤ j)) a b
  | .GtE => ordD (fun i j => decide (j ≤ i)) a b
  | _ => none

/-! places -/
noncomputable def atI (l : List D) (i : Int) : Option D := if 0 ≤ i then (if i < 4096 then l[i.toNat]? else none) else if i = -1 then l.getLast? else none
noncomputable def subS (s : Str) (i : Int) : Option D := if 0 ≤ i then (if i < 4096 then (s.cps[i.toNat]?).map fun c => .str ⟨#[c]⟩ else none) else none
noncomputable def subFeed (tb : Tb) (k : Nat) (s : Str) : Option D := if s = (⟨#[99, 101, 108, 108, 115]⟩ : Str) then some (.lst (tb.cells.map .int)) else if s = (⟨#[97, 116]⟩ : Str) then some (.int (Int.ofNat k)) else if s = (⟨#[109, 105, 120]⟩ : Str) then some (.int tb.mix) else none
/-- an item, of the script's feed too -/
noncomputable def subF (tb : Tb) (k : Nat) (d j : D) : Option D := match d with
  | .lst l => (intD j).bind fun i => atI l i
  | .tup l => (intD j).bind fun i => atI l i
  | .str s => (intD j).bind fun i => subS s i
  | .dct l => (strD j).bind fun x => l.lookup x
  | .feed => (strD j).bind fun x => subFeed tb k x
  | _ => none
noncomputable def slcD {α : Type} (l : List α) (lo hi : Option Int) : List α :=
  (sliceRange (sliceBounds lo hi none l.length).1 (sliceBounds lo hi none l.length).2.1 (sliceBounds lo hi none l.length).2.2).filterMap (l[·]?)
noncomputable def rangeD (n : Nat) : List D := (List.range n).map fun i : Nat => D.int (Int.ofNat i)
noncomputable def rangeM (d : D) : M (List D) := (asI d).bind fun i => .ask (decide (0 ≤ i ∧ i ≤ 4096)) (.ret (rangeD i.toNat))

/-! expressions -/
noncomputable abbrev EvM := Nat → Expr → M (Bool × D × Nat)
/-- a name's tree, read -/
noncomputable def rdM (k : Nat) : Option (Bool × D) → M (Bool × D × Nat)
  | some (false, d) => .ret (false, d, k)
  | _ => .fail
/-- an operand that is looked at alone: a name's own list stays the name's -/
noncomputable def evT (f : EvM) (sc : Kinds) (vs : Vars) (k : Nat) (e : Expr) : M (D × Nat) := match nameOf e with
  | some x => .gd (isLoc sc x) ((M.lift (vs.lookup x)).bind fun q => .ret (q.2, k))
  | none => (f k e).bind fun q => .ret q.2
noncomputable def evL (f : EvM) : Nat → List Expr → M (List D × Nat)
  | k, [] => .ret ([], k)
  | k, e :: r => (f k e).bind fun x => (evL f x.2.2 r).bind fun y => .ret (x.2.1 :: y.1, y.2)
noncomputable def evB (f : EvM) (k : Nat) (e : Expr) : M (Bool × Nat) := (f k e).bind fun x => (asB x.2.1).bind fun b => .ret (b, x.2.2)
noncomputable def evBs (f : EvM) (op : BoolOp) : Nat → List Expr → M (Bool × Nat)
  | _, [] => .fail
  | k, e :: r => (evB f k e).bind fun x => match r, op with
    | [], _ => .ret x
    | _, .And => .test x.1 (evBs f .And x.2 r) (.ret (false, x.2))
    | _, .Or => .test x.1 (.ret (true, x.2)) (evBs f .Or x.2 r)
noncomputable def evKeys : List (Option Expr) → Option (List Str)
  | [] => some []
  | e :: r => (e.bind strOf).bind fun s => (evKeys r).map (s :: ·)
noncomputable def compM (test : Vars → Nat → M (Bool × Nat)) (f : Vars → EvM) (x : Str) (vs : Vars) (e : Expr) : Nat → List D → M (List D × Nat)
  | k, [] => .ret ([], k)
  | k, d :: r => (test ((x, false, d) :: vs) k).bind fun b => .test b.1 ((f ((x, false, d) :: vs) b.2 e).bind fun y => (compM test f x vs e y.2.2 r).bind fun z => .ret (y.2.1 :: z.1, z.2)) (compM test f x vs e b.2 r)
noncomputable def evIfs (f : Vars → EvM) (ifs : List Expr) (vs : Vars) (k : Nat) : M (Bool × Nat) := match ifs with
  | [] => .ret (true, k)
  | t :: r => .gd r.isEmpty (evB (f vs) k t)
noncomputable def scopeOk (sc : Kinds) (x : Str) (scope : Scope) : Bool :=
  scope.kind == .function && !scope.isGenerator && !scope.isCoroutine && isLoc scope.names x && decide (scope.names.map (·.1)).Nodup &&
  scope.names.all fun q => match q.2 with
    | .local => q.1 == x || q.1 == (⟨#[46, 48]⟩ : Str)
    | .cell => q.1 == x
    | .free => sc.lookup q.1 == some .cell && !(q.1 == x) && !(q.1 == (⟨#[46, 48]⟩ : Str))
    | _ => !(q.1 == x) && !(q.1 == (⟨#[46, 48]⟩ : Str))
noncomputable def relab (sc : Kinds) (names : Kinds) : Kinds := names.map fun q => if q.2 = .free ∧ sc.lookup q.1 = some .cell then (q.1, .cell) else q
noncomputable def optInt (f : EvM) (k : Nat) : Option Expr → M (Option Int × Nat)
  | none => .ret (none, k)
  | some e => (f k e).bind fun x => (asI x.2.1).bind fun i => .ret (some i, x.2.2)
/-- a name, or a name's attribute -/
noncomputable def isPlace : Expr → Bool
  | .Name _ _ => true
  | .Attribute o _ _ => (nameOf o).isSome
  | _ => false
noncomputable def noCall : Expr → Bool
  | .Call _ _ _ _ => false
  | _ => true
noncomputable def sameLine (a p : Pos) : Bool := a.endLine == p.line
noncomputable def conM (k : Nat) : Const → M (Bool × D × Nat)
  | .none => .ret (false, .none, k)
  | .bool b => .ret (false, .bool b, k)
  | .int i => .ret (false, .int i, k)
  | .str s => .ret (false, .str s, k)
  | _ => .fail
/-- the expressions that the evaluator knows -/
inductive EV : Expr → Type
  | con (c : Const) (u) (p : Pos) : EV (.Constant c u p)
  | nam (x : Str) (p : Pos) : EV (.Name x p)
  | tup (es : List Expr) (u) (p : Pos) : EV (.Tuple es u p)
  | lst (es : List Expr) (p : Pos) : EV (.List es p)
  | dic (ks : List (Option Expr)) (es : List Expr) (p : Pos) : EV (.Dict ks es p)
  | bin (l : Expr) (op : Operator) (r : Expr) (p : Pos) : EV (.BinOp l op r p)
  | una (op : UnaryOp) (x : Expr) (p : Pos) : EV (.UnaryOp op x p)
  | boo (op : BoolOp) (es : List Expr) (p : Pos) : EV (.BoolOp op es p)
  | ife (t b o : Expr) (p : Pos) : EV (.IfExp t b o p)
  | cmp (l : Expr) (op : CmpOp) (r : Expr) (p : Pos) : EV (.Compare l [op] [r] p)
  | slc (x : Str) (p : Pos) (lo hi : Option Expr) (q r : Pos) : EV (.Subscript (.Name x p) (.Slice lo hi none q) r)
  | sub (v i : Expr) (p : Pos) : EV (.Subscript v i p)
  | att (v : Expr) (a : Str) (p : Pos) : EV (.Attribute v a p)
  | com (elt : Expr) (x : Str) (p : Pos) (iter : Expr) (ifs : List Expr) (scope : Scope) (q : Pos) : EV (.ListComp elt [⟨.Name x p, iter, ifs, 0⟩] scope q)
  | cal (fn : Str) (p : Pos) (args : List Expr) (q : Pos) : EV (.Call (.Name fn p) args [] q)
  | mth (o : Expr) (m : Str) (ap : Pos) (args : List Expr) (cp : Pos) : EV (.Call (.Attribute o m ap) args [] cp)
  | bad (e : Expr) : EV e
noncomputable def viewE (e : Expr) : EV e := match e with
  | .Constant c u p => .con c u p
  | .Name x p => .nam x p
  | .Tuple es u p => .tup es u p
  | .List es p => .lst es p
  | .Dict ks es p => .dic ks es p
  | .BinOp l op r p => .bin l op r p
  | .UnaryOp op x p => .una op x p
  | .BoolOp op es p => .boo op es p
  | .IfExp t b o p => .ife t b o p
  | .Compare l [op] [r] p => .cmp l op r p
  | .Subscript (.Name x p) (.Slice lo hi none q) r => .slc x p lo hi q r
  | .Subscript v i p => .sub v i p
  | .Attribute v a p => .att v a p
  | .ListComp elt [⟨.Name x p, iter, ifs, 0⟩] scope q => .com elt x p iter ifs scope q
  | .Call (.Name fn p) args [] q => .cal fn p args q
  | .Call (.Attribute o m ap) args [] cp => .mth o m ap args cp
  | e => .bad e
/-- a call of a name upon one argument -/
noncomputable def call1 {e : Expr} (v : EV e) : Option (Str × Expr) := match v with
  | .cal fn _ args _ => (match args with
    | [a] => some (fn, a)
    | _ => none)
  | _ => none
/-- what a comprehension goes over -/
noncomputable def evSrc (f : EvM) (sc : Kinds) (vs : Vars) (k : Nat) (e : Expr) : M (List D × Nat) := match call1 (viewE e) with
  | some q => .gd (q.1 == (⟨#[114, 97, 110, 103, 101]⟩ : Str) && isGlob sc q.1) ((f k q.2).bind fun x => (rangeM x.2.1).bind fun l => .ret (l, x.2.2))
  | none => (evT f sc vs k e).bind fun x => (asL x.1).bind fun l => .ret (l, x.2)
noncomputable def seq1 (f : EvM) (sc : Kinds) (vs : Vars) (k : Nat) (args : List Expr) (F : List D → Bool × D) : M (Bool × D × Nat) := match args with
  | [] => .fail
  | a :: r => .gd r.isEmpty ((evT f sc vs k a).bind fun x => (asL x.1).bind fun l => .ask (decide (l.length ≤ lim)) (.ret ((F l).1, (F l).2, x.2)))
noncomputable def dictOk (ks : List (Option Expr)) (es : List Expr) (xs : List Str) : Bool := decide (xs.length = es.length ∧ xs.Nodup ∧ es.length ≤ 15)
noncomputable def evV (tb : Tb) (ev : Kinds → Vars → EvM) (sc : Kinds) (vs : Vars) (k : Nat) {e : Expr} (v : EV e) : M (Bool × D × Nat) := match v with
  | .con c _ _ => conM k c
  | .nam x _ => cond (isLoc sc x) (rdM k (vs.lookup x)) (.gd (isGlob sc x) ((M.lift (tb.glob.lookup x)).bind fun d => .ret (false, d, k)))
  | .tup es _ _ => .gd (decide (es.length ≤ lim)) ((evL (ev sc vs) k es).bind fun x => .ret (false, .tup x.1, x.2))
  | .lst es _ => .gd (decide (es.length ≤ lim)) ((evL (ev sc vs) k es).bind fun x => .ret (true, .lst x.1, x.2))
  | .dic ks es _ => (M.lift (evKeys ks)).bind fun xs => .gd (dictOk ks es xs) ((evL (ev sc vs) k es).bind fun x => .ret (true, .dct (xs.zip x.1), x.2))
  | .bin l op r _ => (evT (ev sc vs) sc vs k l).bind fun x => (evT (ev sc vs) sc vs x.2 r).bind fun y => (binM op x.1 y.1).bind fun z => .ret (z.1, z.2, y.2)
  | .una op x _ => (match op with
    | .Not => (evB (ev sc vs) k x).bind fun y => .ret (false, .bool (!y.1), y.2)
    | .Invert => (ev sc vs k x).bind fun y => (asI y.2.1).bind fun i => .ret (false, .int (Builtin.bitNot i), y.2.2)
    | .USub => (ev sc vs k x).bind fun y => (asI y.2.1).bind fun i => .ret (false, .int (-i), y.2.2)
    | .UAdd => .fail)
  | .boo op es _ => (evBs (ev sc vs) op k es).bind fun x => .ret (false, .bool x.1, x.2)
  | .ife t b o _ => (evB (ev sc vs) k t).bind fun x => .test x.1 (ev sc vs x.2 b) (ev sc vs x.2 o)
  | .cmp l op r _ => .gd (!behindInMarks op r) ((evT (ev sc vs) sc vs k l).bind fun x => (evT (ev sc vs) sc vs x.2 r).bind fun y => .opt ((cmpD op x.1 y.1).map .bool) fun z => .ret (false, z, y.2))
  | .slc x a lo hi _ _ => (evT (ev sc vs) sc vs k (.Name x a)).bind fun y => (optInt (ev sc vs) y.2 lo).bind fun u => (optInt (ev sc vs) u.2 hi).bind fun w => (asLst y.1).bind fun l => .ask (decide (l.length ≤ lim)) (.ret (true, .lst (slcD l u.1 w.1), w.2))
  | .sub v i _ => (evT (ev sc vs) sc vs k v).bind fun x => (ev sc vs x.2 i).bind fun y => .part (subF tb y.2.2 x.1 y.2.1) fun z => .ret (false, z, y.2.2)
  | .att v a _ => .gd (noCall v) ((ev sc vs k v).bind fun x => .gd (!x.1) ((asObj x.2.1).bind fun q => .gd (tb.attr q.1 a) (.part (q.2.lookup a) fun r => .ret (false, r, x.2.2))))
  | .com elt x _ iter ifs scope _ => .gd (scopeOk sc x scope) ((evSrc (ev sc vs) sc vs k iter).bind fun y => .ask (decide (y.1.length ≤ lim)) (.sub (fun cl => (compM (evIfs (ev (relab sc scope.names)) ifs) (ev (relab sc scope.names)) x vs elt y.2 y.1).run cl) fun z => .ret (true, .lst z.1, z.2)))
  | .cal fn _ args _ => .gd (isGlob sc fn) (
      cond (fn == (⟨#[108, 101, 110]⟩ : Str)) (seq1 (ev sc vs) sc vs k args fun l => (false, .int l.length)) (
      cond (fn == (⟨#[108, 105, 115, 116]⟩ : Str)) (seq1 (ev sc vs) sc vs k args fun l => (true, .lst l)) (
      cond (fn == (⟨#[116, 117, 112, 108, 101]⟩ : Str)) (seq1 (ev sc vs) sc vs k args fun l => (false, .tup l)) (
      .gd (tb.fns.contains fn) ((evL (ev sc vs) k args).bind fun x => .call fn x.1 x.2 fun y => .ret (false, y.1, y.2))))))
  | .mth o m ap args cp => .gd (isPlace o && sameLine ap cp && decide (args.length < 29)) ((ev sc vs k o).bind fun x => (asObj x.2.1).bind fun q => (M.lift (tb.meth q.1 m)).bind fun key => .ask (q.2.lookup m).isNone ((evL (ev sc vs) x.2.2 args).bind fun y => .call key (.obj q.1 q.2 :: y.1) y.2 fun z => .ret (false, z.1, z.2)))
  | .bad _ => .fail
noncomputable def evE (tb : Tb) : Nat → Kinds → Vars → EvM
  | 0, _, _, _, _ => .fail
  | n + 1, sc, vs, k, e => evV tb (evE tb n) sc vs k (viewE e)

/-! statements -/
inductive Fl where
  | nxt
  | cont
  | ret (d : D)
noncomputable abbrev EvS := Vars → Nat → M (Fl × Vars × Nat)
/-- behind a statement -/
noncomputable def thnM (t : EvS) (x : Fl × Vars × Nat) : M (Fl × Vars × Nat) := match x.1 with
  | .nxt => t x.2.1 x.2.2
  | _ => .ret x
noncomputable def evSs (g : Stmt → EvS) : List Stmt → EvS
  | [], vs, k => .ret (.nxt, vs, k)
  | st :: r, vs, k => (g st vs k).bind (thnM (evSs g r))
noncomputable def bindV (sc : Kinds) (x : Str) (o : Bool) (d : D) (vs : Vars) : M Vars := .gd (isLoc sc x) (.ret (vset x (o && ownNames.contains x) d vs))
/-- behind a loop's turn -/
noncomputable def forT (t : EvS) (x : Fl × Vars × Nat) : M (Fl × Vars × Nat) := match x.1 with
  | .ret _ => .ret x
  | _ => t x.2.1 x.2.2
noncomputable def evFor (b : EvS) (bind : D → Vars → M Vars) : List D → EvS
  | [], vs, k => .ret (.nxt, vs, k)
  | d :: r, vs, k => (bind d vs).bind fun v => (b v k).bind (forT (evFor b bind r))
noncomputable def evWhile (t : Vars → Nat → M (Bool × Nat)) (b : EvS) : Nat → EvS
  | 0, _, _ => .fail
  | m + 1, vs, k => (t vs k).bind fun c => .test c.1 ((b vs c.2).bind (forT (evWhile t b m))) (.ret (.nxt, vs, c.2))
noncomputable def targetNames : List Expr → Option (List Str)
  | [] => some []
  | e :: r => (nameOf e).bind fun x => (targetNames r).map (x :: ·)
noncomputable def evR (f : EvM) : Nat → List Expr → M (List (Bool × D) × Nat)
  | k, [] => .ret ([], k)
  | k, e :: r => (f k e).bind fun x => (evR f x.2.2 r).bind fun y => .ret ((x.1, x.2.1) :: y.1, y.2)
noncomputable def bindAll (sc : Kinds) : List Str → List (Bool × D) → Vars → M Vars
  | [], [], vs => .ret vs
  | x :: xs, d :: ds, vs => (bindV sc x d.1 d.2 vs).bind fun v => bindAll sc xs ds v
  | _, _, _ => .fail
/-- a name's own list, its own dict -/
noncomputable def ownL : Option (Bool × D) → M (List D)
  | some (true, .lst l) => .ask (decide (l.length ≤ lim)) (.ret l)
  | _ => .fail
noncomputable def ownD : Option (Bool × D) → M (List (Str × D))
  | some (true, .dct l) => .ask (decide (l.length ≤ lim)) (.ret l)
  | _ => .fail
/-- a store by a place: into an own list or an own dict -/
noncomputable def storeD (vs : Vars) (x : Str) (i d : D) : M Vars := match i with
  | .int j => (ownL (vs.lookup x)).bind fun l => .ask (decide (0 ≤ j ∧ j < l.length)) (.ret (vset x true (.lst (l.set j.toNat d)) vs))
  | .str s => (ownD (vs.lookup x)).bind fun l => .ret (vset x true (.dct (dset s d l)) vs)
  | _ => .fail
noncomputable def remD (l : List D) (y : D) : Option D := (allStr l).bind fun zs => (strD y).bind fun t => if zs.contains t then some (.lst ((zs.erase t).map .str)) else none
noncomputable def mutL (m : Str) (l : List D) (y : D) : M (List D) :=
  cond (m == (⟨#[97, 112, 112, 101, 110, 100]⟩ : Str)) (.ret (l ++ [y])) (
  cond (m == (⟨#[101, 120, 116, 101, 110, 100]⟩ : Str)) ((asTup y).bind fun ys => .ask (decide (l.length + ys.length ≤ lim)) (.ret (l ++ ys))) (
  .gd (m == (⟨#[114, 101, 109, 111, 118, 101]⟩ : Str)) (.opt (remD l y) asLst)))
noncomputable def popD (l : List D) (i : D) : M (D × List D) := (asI i).bind fun j => .ask (decide (0 ≤ j ∧ j < l.length)) (.opt (l[j.toNat]?) fun r => .ret (r, l.eraseIdx j.toNat))
/-- what a for goes over -/
noncomputable def evFSrc (f : EvM) (sc : Kinds) (k : Nat) (e : Expr) : M (List D × Nat) := match strOf e with
  | some s => .gd (decide (s.length ≤ lim)) (.ret (s.cps.toList.map fun c => .str ⟨#[c]⟩, k))
  | none => match call1 (viewE e) with
    | some q => .gd (isGlob sc q.1) (
        cond (q.1 == (⟨#[114, 97, 110, 103, 101]⟩ : Str)) ((f k q.2).bind fun x => (rangeM x.2.1).bind fun l => .ret (l, x.2.2)) (
        .gd (q.1 == (⟨#[101, 110, 117, 109, 101, 114, 97, 116, 101]⟩ : Str)) ((f k q.2).bind fun x => (asLst x.2.1).bind fun l => .gd l.isEmpty (.ret ([], x.2.2)))))
    | none => (f k e).bind fun x => (asL x.2.1).bind fun l => .ret (l, x.2.2)
noncomputable def bindT (sc : Kinds) (t : Expr) (d : D) (vs : Vars) : M Vars := (M.lift (nameOf t)).bind fun x => bindV sc x false d vs
noncomputable def pairD : List D → M (D × D)
  | [a, b] => .ret (a, b)
  | _ => .fail
noncomputable def bindP (sc : Kinds) (x y : Str) (d : D) (vs : Vars) : M Vars := (asTup d).bind fun l => (pairD l).bind fun q => (bindV sc x false q.1 vs).bind fun v => bindV sc y false q.2 v
noncomputable def isFeed : Option (Bool × D) → Bool
  | some (false, .feed) => true
  | _ => false
noncomputable def isStrD (s : Str) : D → Bool
  | .str x => x == s
  | _ => false
noncomputable def isIntD (i : Int) : D → Bool
  | .int j => j == i
  | _ => false
noncomputable def isFeedAt (v : Option (Bool × D)) (j d : D) (k : Nat) : Bool := isFeed v && (isStrD (⟨#[97, 116]⟩ : Str) j && isIntD (Int.ofNat (k + 1)) d)
noncomputable def isTuple : Expr → Bool
  | .Tuple _ _ _ => true
  | _ => false
/-- the statements that the evaluator knows -/
inductive SV : Stmt → Type
  | ret (e : Expr) (p : Pos) : SV (.Return (some e) p)
  | cont (p : Pos) : SV (.Continue p)
  | mut (x : Str) (px : Pos) (m : Str) (ap : Pos) (e : Expr) (cp p : Pos) : SV (.Expr (.Call (.Attribute (.Name x px) m ap) [e] [] cp) p)
  | iff (t : Expr) (b o : List Stmt) (p : Pos) : SV (.If t b o p)
  | whl (t : Expr) (b : List Stmt) (p : Pos) : SV (.While t b [] p)
  | zip (x : Str) (px : Pos) (y : Str) (py : Pos) (kk) (pt : Pos) (z : Str) (pz : Pos) (a : Str) (pa : Pos) (b : Str) (pb pc : Pos) (body : List Stmt) (p : Pos) : SV (.For (.Tuple [.Name x px, .Name y py] kk pt) (.Call (.Name z pz) [.Name a pa, .Name b pb] [] pc) body [] p)
  | for (t i : Expr) (body : List Stmt) (p : Pos) : SV (.For t i body [] p)
  | pop (y : Str) (py : Pos) (x : Str) (px : Pos) (m : Str) (pm : Pos) (e : Expr) (pc p : Pos) : SV (.Assign [.Name y py] (.Call (.Attribute (.Name x px) m pm) [e] [] pc) p)
  | asg (y : Str) (py : Pos) (e : Expr) (p : Pos) : SV (.Assign [.Name y py] e p)
  | sto (x : Str) (px : Pos) (i : Expr) (ps : Pos) (e : Expr) (p : Pos) : SV (.Assign [.Subscript (.Name x px) i ps] e p)
  | tupS (x : Str) (px : Pos) (s : Str) (u) (pq ps : Pos) (y : Str) (py : Pos) (kk) (pt : Pos) (e : Expr) (p : Pos) : SV (.Assign [.Tuple [.Subscript (.Name x px) (.Constant (.str s) u pq) ps, .Name y py] kk pt] e p)
  | tup2 (ts : List Expr) (kk) (pt : Pos) (es : List Expr) (k2) (p2 p : Pos) : SV (.Assign [.Tuple ts kk pt] (.Tuple es k2 p2) p)
  | unp (ts : List Expr) (kk) (pt : Pos) (e : Expr) (p : Pos) : SV (.Assign [.Tuple ts kk pt] e p)
  | bad (st : Stmt) : SV st
noncomputable def view (st : Stmt) : SV st := match st with
  | .Return (some e) p => .ret e p
  | .Continue p => .cont p
  | .Expr (.Call (.Attribute (.Name x px) m ap) [e] [] cp) p => .mut x px m ap e cp p
  | .If t b o p => .iff t b o p
  | .While t b [] p => .whl t b p
  | .For (.Tuple [.Name x px, .Name y py] kk pt) (.Call (.Name z pz) [.Name a pa, .Name b pb] [] pc) body [] p => .zip x px y py kk pt z pz a pa b pb pc body p
  | .For t i body [] p => .for t i body p
  | .Assign [.Name y py] (.Call (.Attribute (.Name x px) m pm) [e] [] pc) p => .pop y py x px m pm e pc p
  | .Assign [.Name y py] e p => .asg y py e p
  | .Assign [.Subscript (.Name x px) i ps] e p => .sto x px i ps e p
  | .Assign [.Tuple [.Subscript (.Name x px) (.Constant (.str s) u pq) ps, .Name y py] kk pt] e p => .tupS x px s u pq ps y py kk pt e p
  | .Assign [.Tuple ts kk pt] (.Tuple es k2 p2) p => .tup2 ts kk pt es k2 p2 p
  | .Assign [.Tuple ts kk pt] e p => .unp ts kk pt e p
  | st => .bad st
noncomputable def evSV (tb : Tb) (sc : Kinds) (ev : Stmt → EvS) (vs : Vars) (k : Nat) {st : Stmt} (v : SV st) : M (Fl × Vars × Nat) := match v with
  | .ret e _ => (evE tb 40 sc (freezeAll vs) k e).bind fun x => .ret (.ret x.2.1, freezeAll vs, x.2.2)
  | .cont _ => .ret (.cont, vs, k)
  | .mut x _ m ap e cp _ => .gd (isLoc sc x && sameLine ap cp) ((ownL (vs.lookup x)).bind fun l => (evE tb 40 sc vs k e).bind fun y => (mutL m l y.2.1).bind fun l' => .ret (.nxt, vset x true (.lst l') vs, y.2.2))
  | .iff t b o _ => (evB (evE tb 40 sc (freezeNames (callArgNames t) vs)) k t).bind fun x => .test x.1 (evSs ev b (freezeNames (callArgNames t) vs) x.2) (evSs ev o (freezeNames (callArgNames t) vs) x.2)
  | .whl t b _ => evWhile (fun vs k => evB (evE tb 40 sc vs) k t) (evSs ev b) 64 vs k
  | .zip x px y py _ _ z _ a pa b pb _ body _ => .gd (z == (⟨#[122, 105, 112]⟩ : Str) && isGlob sc z && !(x == y)) ((evE tb 40 sc (freezeNames [a, b] vs) k (.Name a pa)).bind fun x1 => (evE tb 40 sc (freezeNames [a, b] vs) x1.2.2 (.Name b pb)).bind fun y1 => (asLst x1.2.1).bind fun l => (asLst y1.2.1).bind fun r =>
      .ask (decide (l.length ≤ lim)) (.ask (decide (r.length ≤ lim)) (evFor (evSs ev body) (bindP sc x y) ((l.zip r).map fun q => .tup [q.1, q.2]) (freezeNames [a, b] vs) y1.2.2)))
  | .for t i body _ => (evFSrc (evE tb 40 sc vs) sc k i).bind fun x => .ask (decide (x.1.length ≤ lim)) (evFor (evSs ev body) (bindT sc t) x.1 vs x.2)
  | .pop y _ x px m pm e pc _ => cond (m == (⟨#[112, 111, 112]⟩ : Str)) (.gd (isLoc sc x && sameLine pm pc) ((ownL (vs.lookup x)).bind fun l => (evE tb 40 sc vs k e).bind fun i => (popD l i.2.1).bind fun r => (bindV sc y false r.1 (vset x true (.lst r.2) vs)).bind fun v => .ret (.nxt, v, i.2.2)))
      ((evE tb 40 sc vs k (.Call (.Attribute (.Name x px) m pm) [e] [] pc)).bind fun z => (bindV sc y z.1 z.2.1 vs).bind fun v => .ret (.nxt, v, z.2.2))
  | .asg y _ e _ => (evE tb 40 sc vs k e).bind fun x => (bindV sc y x.1 x.2.1 vs).bind fun v => .ret (.nxt, v, x.2.2)
  | .sto x _ i _ e _ => .gd (isLoc sc x) ((evE tb 40 sc vs k e).bind fun v => (evE tb 40 sc vs v.2.2 i).bind fun j => .test (isFeedAt (vs.lookup x) j.2.1 v.2.1 j.2.2) (.ret (.nxt, vs, j.2.2 + 1)) ((storeD vs x j.2.1 v.2.1).bind fun v' => .ret (.nxt, v', j.2.2)))
  | .tupS x _ s _ _ _ y _ _ _ e _ => .gd (isLoc sc x && !isTuple e) ((evE tb 40 sc vs k e).bind fun v => (asTup v.2.1).bind fun l => (pairD l).bind fun q => (storeD vs x (.str s) q.1).bind fun vs₁ => (bindV sc y false q.2 vs₁).bind fun vs₂ => .ret (.nxt, vs₂, v.2.2))
  | .tup2 ts _ _ es _ _ _ => (M.lift (targetNames ts)).bind fun xs => .gd (decide xs.Nodup && decide (es.length ≤ lim) && !es.all (constantsAlone 8)) ((evR (evE tb 40 sc vs) k es).bind fun x => (bindAll sc xs x.1 vs).bind fun v => .ret (.nxt, v, x.2))
  | .unp ts _ _ e _ => .gd (!isTuple e) ((M.lift (targetNames ts)).bind fun xs => (evE tb 40 sc vs k e).bind fun x => (asL x.2.1).bind fun l => (bindAll sc xs (l.map fun d => (false, d)) vs).bind fun v => .ret (.nxt, v, x.2.2))
  | .bad _ => .fail
noncomputable def evS (tb : Tb) (sc : Kinds) : Nat → Stmt → EvS
  | 0, _, _, _ => .fail
  | n + 1, st, vs, k => evSV tb sc (evS tb sc n) vs k (view st)
/-- how a def's body ends -/
noncomputable def outM (x : Fl × Vars × Nat) : M (D × Nat) := match x.1 with
  | .ret d => .ret (d, x.2.2)
  | .nxt => .ret (.none, x.2.2)
  | .cont => .fail
noncomputable def frozenV (ps : List Str) (ds : List D) : Vars := (ps.zip ds).map fun p => (p.1, false, p.2)
/-- a def's body run upon its arguments -/
noncomputable def runFn (tb : Tb) (sc : Kinds) (params : List Str) (body : List Stmt) (args : List D) (k : Nat) : M (D × Nat) :=
  .gd (decide (params.length = args.length)) ((evSs (evS tb sc 20) body (frozenV params args) k).bind outM)

/-! an object that is being made -/
noncomputable def flat : D → Bool
  | .none => true
  | .lst l => (allStr l).isSome
  | _ => false
noncomputable def selfD : Option (Bool × D) → M (List (Str × D))
  | some (true, .dct l) => .ask (decide (l.length ≤ 900)) (.ret l)
  | _ => .fail
noncomputable def okName (y : Str) : Bool := !(y == (⟨#[115, 101, 108, 102]⟩ : Str)) && !(y == (⟨#[37, 100]⟩ : Str))
noncomputable def okNameK (y : Str) : Bool := okName y && !(y == (⟨#[37, 101]⟩ : Str)) && !(y == (⟨#[37, 115]⟩ : Str))
/-- an object's own method upon itself -/
noncomputable def selfCall (tb : Tb) (C : Addr) (l : List (Str × D)) (mt : Str) (ds : List D) (k : Nat) : M (D × Nat) :=
  (M.lift (tb.meth C mt)).bind fun key => .ask (l.lookup mt).isNone (.call key (.obj C l :: ds) k fun r => .ask (flat r.1) (.ret r))
noncomputable def noneM : D → M Unit
  | .none => .ret ()
  | _ => .fail
inductive SM : Stmt → Type
  | asc (x : Str) (px : Pos) (a : Str) (pa : Pos) (y : Str) (py : Pos) (mt : Str) (ap cp p : Pos) : SM (.Assign [.Attribute (.Name x px) a pa] (.Call (.Attribute (.Name y py) mt ap) [] [] cp) p)
  | ase (x : Str) (px : Pos) (a : Str) (pa : Pos) (e : Expr) (p : Pos) : SM (.Assign [.Attribute (.Name x px) a pa] e p)
  | exp (y : Str) (py : Pos) (mt : Str) (ap : Pos) (es : List Expr) (cp p : Pos) : SM (.Expr (.Call (.Attribute (.Name y py) mt ap) es [] cp) p)
  | fora (y : Str) (py : Pos) (x : Str) (px : Pos) (a : Str) (pa : Pos) (body : List Stmt) (p : Pos) : SM (.For (.Name y py) (.Attribute (.Name x px) a pa) body [] p)
  | forn (y : Str) (py : Pos) (z : Str) (pz : Pos) (body : List Stmt) (p : Pos) : SM (.For (.Name y py) (.Name z pz) body [] p)
  | iff (t : Expr) (b : List Stmt) (p : Pos) : SM (.If t b [] p)
  | bad (st : Stmt) : SM st
noncomputable def viewM (st : Stmt) : SM st := match st with
  | .Assign [.Attribute (.Name x px) a pa] (.Call (.Attribute (.Name y py) mt ap) [] [] cp) p => .asc x px a pa y py mt ap cp p
  | .Assign [.Attribute (.Name x px) a pa] e p => .ase x px a pa e p
  | .Expr (.Call (.Attribute (.Name y py) mt ap) es [] cp) p => .exp y py mt ap es cp p
  | .For (.Name y py) (.Attribute (.Name x px) a pa) body [] p => .fora y py x px a pa body p
  | .For (.Name y py) (.Name z pz) body [] p => .forn y py z pz body p
  | .If t b [] p => .iff t b p
  | st => .bad st
noncomputable def isSelf (sc : Kinds) (x : Str) : Bool := x == (⟨#[115, 101, 108, 102]⟩ : Str) && isLoc sc (⟨#[115, 101, 108, 102]⟩ : Str)
noncomputable def evMV (tb : Tb) (C : Addr) (sets : Str → Bool) (sc : Kinds) (ev : Stmt → EvS) (vs : Vars) (k : Nat) {st : Stmt} (v : SM st) : M (Fl × Vars × Nat) := match v with
  | .asc x _ a _ y _ mt ap cp _ => .gd (isSelf sc x && isSelf sc y && sameLine ap cp && sets a) ((selfD (vs.lookup (⟨#[37, 100]⟩ : Str))).bind fun l => (selfCall tb C l mt [] k).bind fun r => .ret (.nxt, vset (⟨#[37, 100]⟩ : Str) true (.dct (dset a r.1 l)) vs, r.2))
  | .ase x _ a _ e _ => .gd (isSelf sc x && sets a) ((selfD (vs.lookup (⟨#[37, 100]⟩ : Str))).bind fun l => (evE tb 40 sc vs k e).bind fun r => .ret (.nxt, vset (⟨#[37, 100]⟩ : Str) true (.dct (dset a r.2.1 l)) vs, r.2.2))
  | .exp y _ mt ap es cp _ => .gd (isSelf sc y && sameLine ap cp && decide (es.length < 29)) ((selfD (vs.lookup (⟨#[37, 100]⟩ : Str))).bind fun l => (evL (evE tb 40 sc vs) k es).bind fun x => (selfCall tb C l mt x.1 x.2).bind fun r => (noneM r.1).bind fun _ => .ret (.nxt, vs, r.2))
  | .fora y py x _ a _ body _ => .gd (isSelf sc x && okName y && tb.attr C a) ((selfD (vs.lookup (⟨#[37, 100]⟩ : Str))).bind fun l => (M.lift (l.lookup a)).bind fun d => (asL d).bind fun items => evFor (evSs ev body) (bindT sc (.Name y py)) items vs k)
  | .forn y py z pz body _ => .gd (okName y) ((evE tb 40 sc vs k (.Name z pz)).bind fun x => (asL x.2.1).bind fun items => evFor (evSs ev body) (bindT sc (.Name y py)) items vs x.2.2)
  | .iff t b _ => (evB (evE tb 40 sc vs) k t).bind fun x => .test x.1 (evSs ev b vs x.2) (.ret (.nxt, vs, x.2))
  | .bad _ => .fail
noncomputable def evM (tb : Tb) (C : Addr) (sets : Str → Bool) (sc : Kinds) : Nat → Stmt → EvS
  | 0, _, _, _ => .fail
  | n + 1, st, vs, k => evMV tb C sets sc (evM tb C sets sc n) vs k (viewM st)

/-! what fills self.entries ("%e") and self.stands ("%s") -/
noncomputable abbrev TkF := Str → D → Vars → Nat → M (Vars × Nat)
noncomputable def strV : Option (Bool × D) → M Str
  | some (false, .str y) => .ret y
  | _ => .fail
inductive SK : Stmt → Type
  | forr (y : Str) (py : Pos) (iter : Expr) (body : List Stmt) (p : Pos) : SK (.For (.Name y py) iter body [] p)
  | ifin (nm : Str) (pn : Pos) (x : Str) (px : Pos) (a : Str) (pa pc : Pos) (b : List Stmt) (p : Pos) : SK (.If (.Compare (.Name nm pn) [.In] [.Attribute (.Name x px) a pa] pc) b [] p)
  | iff (t : Expr) (b : List Stmt) (p : Pos) : SK (.If t b [] p)
  | put (x : Str) (px : Pos) (a : Str) (pa : Pos) (nm : Str) (pn ps : Pos) (it : Str) (pi p : Pos) : SK (.Assign [.Subscript (.Attribute (.Name x px) a pa) (.Name nm pn) ps] (.Name it pi) p)
  | app (x : Str) (px : Pos) (a : Str) (pa : Pos) (mm : Str) (ap : Pos) (nm : Str) (pn cp p : Pos) : SK (.Expr (.Call (.Attribute (.Attribute (.Name x px) a pa) mm ap) [.Name nm pn] [] cp) p)
  | take (x : Str) (px : Pos) (mt : Str) (ap : Pos) (it : Str) (pi cp p : Pos) : SK (.Expr (.Call (.Attribute (.Name x px) mt ap) [.Name it pi] [] cp) p)
  | bad (st : Stmt) : SK st
noncomputable def viewK (st : Stmt) : SK st := match st with
  | .For (.Name y py) iter body [] p => .forr y py iter body p
  | .If (.Compare (.Name nm pn) [.In] [.Attribute (.Name x px) a pa] pc) b [] p => .ifin nm pn x px a pa pc b p
  | .If t b [] p => .iff t b p
  | .Assign [.Subscript (.Attribute (.Name x px) a pa) (.Name nm pn) ps] (.Name it pi) p => .put x px a pa nm pn ps it pi p
  | .Expr (.Call (.Attribute (.Attribute (.Name x px) a pa) mm ap) [.Name nm pn] [] cp) p => .app x px a pa mm ap nm pn cp p
  | .Expr (.Call (.Attribute (.Name x px) mt ap) [.Name it pi] [] cp) p => .take x px mt ap it pi cp p
  | st => .bad st
noncomputable def evKV (tb : Tb) (C : Addr) (tk : TkF) (sc : Kinds) (ev : Stmt → EvS) (vars : Vars) (k : Nat) {st : Stmt} (v : SK st) : M (Fl × Vars × Nat) := match v with
  | .forr y py iter body _ => .gd (okNameK y) ((evE tb 40 sc vars k iter).bind fun x => (asL x.2.1).bind fun items => evFor (evSs ev body) (bindT sc (.Name y py)) items vars x.2.2)
  | .ifin nm _ x _ a _ _ b _ => .gd (isSelf sc x && a == (⟨#[101, 110, 116, 114, 105, 101, 115]⟩ : Str) && isLoc sc nm && tb.attr C (⟨#[101, 110, 116, 114, 105, 101, 115]⟩ : Str)) ((strV (vars.lookup nm)).bind fun y => (ownD (vars.lookup (⟨#[37, 101]⟩ : Str))).bind fun l => .ask (l.lookup y).isNone (.ret (.nxt, vars, k)))
  | .iff t b _ => (evB (evE tb 40 sc vars) k t).bind fun x => .test x.1 (evSs ev b vars x.2) (.ret (.nxt, vars, x.2))
  | .put x _ a _ nm _ _ it pi _ => .gd (isSelf sc x && a == (⟨#[101, 110, 116, 114, 105, 101, 115]⟩ : Str) && isLoc sc nm && tb.attr C (⟨#[101, 110, 116, 114, 105, 101, 115]⟩ : Str)) ((strV (vars.lookup nm)).bind fun y => (evE tb 40 sc vars k (.Name it pi)).bind fun x => (storeD vars (⟨#[37, 101]⟩ : Str) (.str y) x.2.1).bind fun v => .ret (.nxt, v, x.2.2))
  | .app x _ a _ mm ap nm pn cp _ => .gd (isSelf sc x && a == (⟨#[115, 116, 97, 110, 100, 115]⟩ : Str) && mm == (⟨#[97, 112, 112, 101, 110, 100]⟩ : Str) && isLoc sc nm && sameLine ap cp && tb.attr C (⟨#[115, 116, 97, 110, 100, 115]⟩ : Str)) ((ownL (vars.lookup (⟨#[37, 115]⟩ : Str))).bind fun l => (evE tb 40 sc vars k (.Name nm pn)).bind fun x => .ret (.nxt, vset (⟨#[37, 115]⟩ : Str) true (.lst (l ++ [x.2.1])) vars, x.2.2))
  | .take x _ mt ap it pi cp _ => .gd (isSelf sc x && sameLine ap cp) ((evE tb 40 sc vars k (.Name it pi)).bind fun x => (tk mt x.2.1 vars x.2.2).bind fun r => .ret (.nxt, r.1, r.2))
  | .bad _ => .fail
noncomputable def evK (tb : Tb) (C : Addr) (tk : TkF) (sc : Kinds) : Nat → Stmt → EvS
  | 0, _, _, _ => .fail
  | n + 1, st, vars, k => evKV tb C tk sc (evK tb C tk sc n) vars k (viewK st)
noncomputable def noTk : TkF := fun _ _ _ _ => .fail
noncomputable def ownsES (vars : Vars) : Bool := vars.all fun p => !p.2.1 || p.1 == (⟨#[37, 101]⟩ : Str) || p.1 == (⟨#[37, 115]⟩ : Str)
noncomputable def nxtM : Fl → M Unit
  | .nxt => .ret ()
  | _ => .fail
noncomputable def ownV : Option (Bool × D) → M D
  | some (true, d) => .ret d
  | _ => .fail
/-- self.take_sig(item) -/
noncomputable def tkSig (tb : Tb) (C : Addr) (scT : Kinds) (pT : Str) (bodyT : List Stmt) : TkF := fun mt d vars k => .gd (mt == (⟨#[116, 97, 107, 101, 95, 115, 105, 103]⟩ : Str)) ((ownD (vars.lookup (⟨#[37, 101]⟩ : Str))).bind fun e => (ownL (vars.lookup (⟨#[37, 115]⟩ : Str))).bind fun ss => .ask (ownsES vars)
  ((evSs (evK tb C noTk scT 20) bodyT [(pT, false, d), ((⟨#[37, 101]⟩ : Str), true, .dct e), ((⟨#[37, 115]⟩ : Str), true, .lst ss)] k).bind fun r => (nxtM r.1).bind fun _ => (ownV (r.2.1.lookup (⟨#[37, 101]⟩ : Str))).bind fun e' => (ownV (r.2.1.lookup (⟨#[37, 115]⟩ : Str))).bind fun s' => .ret (vset (⟨#[37, 101]⟩ : Str) true e' (vset (⟨#[37, 115]⟩ : Str) true s' vars), r.2.2)))
noncomputable def noDct : Nat → D → Bool
  | 0, _ => false
  | n + 1, .tup l => l.all (noDct n)
  | n + 1, .lst l => l.all (noDct n)
  | _ + 1, .dct _ => false
  | _ + 1, .obj _ _ => false
  | _ + 1, _ => true
noncomputable def frzV : Option (Bool × D) → M D
  | some (false, d) => .ret d
  | _ => .fail
noncomputable def dctV : Option (Bool × D) → M (List (Str × D))
  | some (true, .dct l) => .ret l
  | _ => .fail
noncomputable def lstV : Option (Bool × D) → M (List D)
  | some (true, .lst l) => .ret l
  | _ => .fail
inductive SI : List Stmt → Type
  | mk (x1 : Str) (q1 : Pos) (a1 : Str) (q2 q3 q4 : Pos) (x2 : Str) (q5 : Pos) (a2 : Str) (q6 q7 q8 : Pos) (x3 : Str) (q9 : Pos) (a3 : Str) (q10 q11 q12 : Pos) (st4 : Stmt) (rest : List Stmt) :
      SI (.Assign [.Attribute (.Name x1 q1) a1 q2] (.Dict [] [] q3) q4 :: .Assign [.Attribute (.Name x2 q5) a2 q6] (.List [] q7) q8 :: .Assign [.Attribute (.Name x3 q9) a3 q10] (.List [] q11) q12 :: st4 :: rest)
  | bad (b : List Stmt) : SI b
noncomputable def viewI (b : List Stmt) : SI b := match b with
  | .Assign [.Attribute (.Name x1 q1) a1 q2] (.Dict [] [] q3) q4 :: .Assign [.Attribute (.Name x2 q5) a2 q6] (.List [] q7) q8 :: .Assign [.Attribute (.Name x3 q9) a3 q10] (.List [] q11) q12 :: st4 :: rest => .mk x1 q1 a1 q2 q3 q4 x2 q5 a2 q6 q7 q8 x3 q9 a3 q10 q11 q12 st4 rest
  | b => .bad b
/-- behind the three first statements -/
noncomputable def sigGo (tb : Tb) (C : Addr) (sets : Str → Bool) (scI scT : Kinds) (pI pT : Str) (bodyT : List Stmt) (items : D) (k : Nat) (st4 : Stmt) (rest : List Stmt) : M (List (Str × D) × Nat) := .ask (noDct 6 items)
    ((evK tb C (tkSig tb C scT pT bodyT) scI 20 st4 [(pI, false, items), ((⟨#[37, 101]⟩ : Str), true, .dct []), ((⟨#[37, 115]⟩ : Str), true, .lst [])] k).bind fun r => (nxtM r.1).bind fun _ => (dctV (r.2.1.lookup (⟨#[37, 101]⟩ : Str))).bind fun e => (lstV (r.2.1.lookup (⟨#[37, 115]⟩ : Str))).bind fun ss => (frzV (r.2.1.lookup pI)).bind fun items' =>
      .ask (e.all (fun p => noDct 6 p.2)) (.ask (ss.all (noDct 6)) (.ask (noDct 6 items')
        ((evSs (evM tb C sets scI 20) rest [(pI, false, items'), ((⟨#[37, 100]⟩ : Str), true, .dct [((⟨#[101, 110, 116, 114, 105, 101, 115]⟩ : Str), .dct e), ((⟨#[115, 116, 97, 110, 100, 115]⟩ : Str), .lst ss), ((⟨#[111, 112, 101, 110, 101, 100]⟩ : Str), .lst [])])] r.2.2).bind fun r₂ => (nxtM r₂.1).bind fun _ => (dctV (r₂.2.1.lookup (⟨#[37, 100]⟩ : Str))).bind fun l => .ret (l, r₂.2.2)))))
/-- what Signatures' making yields -/
noncomputable def sigInit (tb : Tb) (C : Addr) (sets : Str → Bool) (scI scT : Kinds) (pI pT : Str) (bodyT : List Stmt) (items : D) (k : Nat) {body : List Stmt} (v : SI body) : M (List (Str × D) × Nat) := match v with
  | .mk x1 _ a1 _ _ _ x2 _ a2 _ _ _ x3 _ a3 _ _ _ st4 rest => .gd (isSelf scI x1 && isSelf scI x2 && isSelf scI x3 && a1 == (⟨#[101, 110, 116, 114, 105, 101, 115]⟩ : Str) && a2 == (⟨#[115, 116, 97, 110, 100, 115]⟩ : Str) && a3 == (⟨#[111, 112, 101, 110, 101, 100]⟩ : Str) && sets (⟨#[101, 110, 116, 114, 105, 101, 115]⟩ : Str) && sets (⟨#[115, 116, 97, 110, 100, 115]⟩ : Str) && sets (⟨#[111, 112, 101, 110, 101, 100]⟩ : Str)) (sigGo tb C sets scI scT pI pT bodyT items k st4 rest)
  | .bad _ => .fail
inductive SU : List Stmt → Type
  | mk (su : Str) (q1 q2 : Pos) (i : Str) (ap : Pos) (e : Expr) (es : List Expr) (cp p : Pos) (rest : List Stmt) : SU (.Expr (.Call (.Attribute (.Call (.Name su q1) [] [] q2) i ap) (e :: es) [] cp) p :: rest)
  | bad (b : List Stmt) : SU b
noncomputable def viewU (b : List Stmt) : SU b := match b with
  | .Expr (.Call (.Attribute (.Call (.Name su q1) [] [] q2) i ap) (e :: es) [] cp) p :: rest => .mk su q1 q2 i ap e es cp p rest
  | b => .bad b
/-- the class above, then the rest -/
noncomputable def subGo (tb : Tb) (C : Addr) (sets : Str → Bool) (scO scN : Kinds) (pO pN : List Str) (bodyN : List Stmt) (args : List D) (k : Nat) (es : List Expr) (rest : List Stmt) : M (List (Str × D) × Nat) :=
  (evL (evE tb 40 scO (frozenV pO args ++ [((⟨#[37, 100]⟩ : Str), true, .dct [])])) k es).bind fun x => .gd (decide (pN.length = x.1.length))
      ((evSs (evM tb C sets scN 20) bodyN (frozenV pN x.1 ++ [((⟨#[37, 100]⟩ : Str), true, .dct [])]) x.2).bind fun r => (nxtM r.1).bind fun _ => (dctV (r.2.1.lookup (⟨#[37, 100]⟩ : Str))).bind fun l₁ =>
        (evSs (evM tb C sets scO 20) rest (frozenV pO args ++ [((⟨#[37, 100]⟩ : Str), true, .dct l₁)]) r.2.2).bind fun r₃ => (nxtM r₃.1).bind fun _ => (dctV (r₃.2.1.lookup (⟨#[37, 100]⟩ : Str))).bind fun l => .ret (l, r₃.2.2))
/-- what an object's making yields where __init__ first calls the class above -/
noncomputable def subInit (tb : Tb) (C : Addr) (sets : Str → Bool) (scO scN : Kinds) (pO pN : List Str) (bodyN : List Stmt) (args : List D) (k : Nat) {bodyO : List Stmt} (v : SU bodyO) : M (List (Str × D) × Nat) := match v with
  | .mk su _ _ i ap e es cp _ rest => .gd (su == (⟨#[115, 117, 112, 101, 114]⟩ : Str) && i == (⟨#[95, 95, 105, 110, 105, 116, 95, 95]⟩ : Str) && sameLine ap cp && decide ((e :: es).length < 29) && decide (pO.length = args.length) && scO.lookup (⟨#[115, 117, 112, 101, 114]⟩ : Str) == some .globalImplicit && scO.lookup (⟨#[95, 95, 99, 108, 97, 115, 115, 95, 95]⟩ : Str) == some .free && scO.lookup (⟨#[115, 101, 108, 102]⟩ : Str) == some .local) (subGo tb C sets scO scN pO pN bodyN args k (e :: es) rest)
  | .bad _ => .fail
end Mine

-- A2
namespace Mine
theorem nopO {α : Type} {a b : Option α} {P : Prop} (h : a = b) (e : (a.isSome == b.isSome) = false := by rfl) : P := by
  subst h
  rw [beq_self_eq_true] at e
  exact Bool.noConfusion e
theorem nopB {a b : Bool} {P : Prop} (h : a = b) (e : (a == b) = false := by rfl) : P := by
  subst h
  rw [beq_self_eq_true] at e
  exact Bool.noConfusion e
section
variable {α β : Type} {cl : Cl}
theorem M.run_bind (f : α → M β) : ∀ m : M α, (m.bind f).run cl = (m.run cl).bind fun a => (f a).run cl
  | .ret a => rfl
  | .fail => rfl
  | .ask true c => M.run_bind f c
  | .ask false c => rfl
  | .test true c d => M.run_bind f c
  | .test false c d => M.run_bind f d
  | .part none c => rfl
  | .part (some r) c => M.run_bind f (c r)
  | .opt none c => rfl
  | .opt (some r) c => M.run_bind f (c r)
  | .call key ds k c => by
    show ((cl key ds k).bind fun r => ((c r).bind f).run cl) = ((cl key ds k).bind fun r => (c r).run cl).bind _
    cases cl key ds k with
    | none => rfl
    | some r => exact M.run_bind f (c r)
  | .sub o c => by
    show ((o cl).bind fun r => ((c r).bind f).run cl) = ((o cl).bind fun r => (c r).run cl).bind _
    cases o cl with
    | none => rfl
    | some r => exact M.run_bind f (c r)
theorem run_bindB {f : α → M β} {m : M α} {a : α} {X : Option β} (h : m.run cl = some a) (t : (f a).run cl = X) : (m.bind f).run cl = X := by
  rw [M.run_bind, h]; exact t
theorem run_bind_inv {f : α → M β} {m : M α} {b : β} (h : (m.bind f).run cl = some b) : ∃ a, m.run cl = some a ∧ (f a).run cl = some b := by
  rw [M.run_bind] at h
  exact Option.bind_eq_some_iff.mp h
end
end Mine

-- B1
namespace Mine
noncomputable def body0 : List Stmt := PySem.Challenge.pw_nz0399_01.main.body
structure Fn where
  params : List Str
  body : List Stmt
  sc : Kinds
noncomputable def fdef : Option Stmt → Option (Arguments × List Stmt × Scope)
  | some (.FunctionDef _ a b _ _ _ sc _ _ _) => some (a, b, sc)
  | _ => none
noncomputable def toFn (st : Option Stmt) : Fn := (fdef st).elim ⟨[], [], []⟩ fun q => ⟨q.1.args.map (·.arg), q.2.1, q.2.2.names⟩
noncomputable def fnAt (i : Nat) : Fn := toFn body0[i]?
noncomputable def clsBody : Option Stmt → List Stmt
  | some (.ClassDef _ _ _ b _ _ _ _ _ _ _) => b
  | _ => []
noncomputable def mthAt (i j : Nat) : Fn := toFn (clsBody body0[i]?)[j]?

noncomputable def NL : List Fn := by
  refine (?f : (v : List Fn) → v = [fnAt 3, fnAt 4, fnAt 6, fnAt 8, fnAt 9, fnAt 10, fnAt 12, fnAt 37, fnAt 38, fnAt 39, fnAt 40, fnAt 41, fnAt 42, fnAt 43, fnAt 44, fnAt 45, fnAt 46, fnAt 47, fnAt 48, mthAt 31 0, mthAt 31 9, mthAt 32 0, mthAt 35 0, mthAt 35 1, mthAt 35 2, mthAt 35 3, mthAt 35 4, mthAt 35 5, mthAt 35 6, mthAt 35 8, mthAt 35 11, mthAt 35 12, mthAt 35 13, mthAt 35 14, mthAt 35 17, mthAt 35 18, mthAt 35 19, mthAt 35 20, mthAt 35 21] → List Fn) _ (by
    have S0 : Str.ofString "" = ⟨#[]⟩ := by kernel_rfl!
    have S1 : Str.ofString " has the field " = ⟨#[32, 104, 97, 115, 32, 116, 104, 101, 32, 102, 105, 101, 108, 100, 32]⟩ := by kernel_rfl!
    have S2 : Str.ofString " is a part of others, so nothing extends it" = ⟨#[32, 105, 115, 32, 97, 32, 112, 97, 114, 116, 32, 111, 102, 32, 111, 116, 104, 101, 114, 115, 44, 32, 115, 111, 32, 110, 111, 116, 104, 105, 110, 103, 32, 101, 120, 116, 101, 110, 100, 115, 32, 105, 116]⟩ := by kernel_rfl!
    have S3 : Str.ofString " is called like a signature" = ⟨#[32, 105, 115, 32, 99, 97, 108, 108, 101, 100, 32, 108, 105, 107, 101, 32, 97, 32, 115, 105, 103, 110, 97, 116, 117, 114, 101]⟩ := by kernel_rfl!
    have S4 : Str.ofString " is declared twice" = ⟨#[32, 105, 115, 32, 100, 101, 99, 108, 97, 114, 101, 100, 32, 116, 119, 105, 99, 101]⟩ := by kernel_rfl!
    have S5 : Str.ofString " is unknown" = ⟨#[32, 105, 115, 32, 117, 110, 107, 110, 111, 119, 110]⟩ := by kernel_rfl!
    have S6 : Str.ofString " stands above itself, or below such ones" = ⟨#[32, 115, 116, 97, 110, 100, 115, 32, 97, 98, 111, 118, 101, 32, 105, 116, 115, 101, 108, 102, 44, 32, 111, 114, 32, 98, 101, 108, 111, 119, 32, 115, 117, 99, 104, 32, 111, 110, 101, 115]⟩ := by kernel_rfl!
    have S7 : Str.ofString " twice" = ⟨#[32, 116, 119, 105, 99, 101]⟩ := by kernel_rfl!
    have S8 : Str.ofString "." = ⟨#[46]⟩ := by kernel_rfl!
    have S9 : Str.ofString ".0" = ⟨#[46, 48]⟩ := by kernel_rfl!
    have S10 : Str.ofString "A" = ⟨#[65]⟩ := by kernel_rfl!
    have S11 : Str.ofString "AB" = ⟨#[65, 66]⟩ := by kernel_rfl!
    have S12 : Str.ofString "ABCD" = ⟨#[65, 66, 67, 68]⟩ := by kernel_rfl!
    have S13 : Str.ofString "B" = ⟨#[66]⟩ := by kernel_rfl!
    have S14 : Str.ofString "C" = ⟨#[67]⟩ := by kernel_rfl!
    have S15 : Str.ofString "D" = ⟨#[68]⟩ := by kernel_rfl!
    have S16 : Str.ofString "KindFault" = ⟨#[75, 105, 110, 100, 70, 97, 117, 108, 116]⟩ := by kernel_rfl!
    have S17 : Str.ofString "Opener" = ⟨#[79, 112, 101, 110, 101, 114]⟩ := by kernel_rfl!
    have S18 : Str.ofString "Signatures" = ⟨#[83, 105, 103, 110, 97, 116, 117, 114, 101, 115]⟩ := by kernel_rfl!
    have S19 : Str.ofString "THIS" = ⟨#[84, 72, 73, 83]⟩ := by kernel_rfl!
    have S20 : Str.ofString "__class__" = ⟨#[95, 95, 99, 108, 97, 115, 115, 95, 95]⟩ := by kernel_rfl!
    have S21 : Str.ofString "__debug__" = ⟨#[95, 95, 100, 101, 98, 117, 103, 95, 95]⟩ := by kernel_rfl!
    have S22 : Str.ofString "__init__" = ⟨#[95, 95, 105, 110, 105, 116, 95, 95]⟩ := by kernel_rfl!
    have S23 : Str.ofString "_law_above" = ⟨#[95, 108, 97, 119, 95, 97, 98, 111, 118, 101]⟩ := by kernel_rfl!
    have S24 : Str.ofString "_law_below" = ⟨#[95, 108, 97, 119, 95, 98, 101, 108, 111, 119]⟩ := by kernel_rfl!
    have S25 : Str.ofString "_law_draw" = ⟨#[95, 108, 97, 119, 95, 100, 114, 97, 119]⟩ := by kernel_rfl!
    have S26 : Str.ofString "_law_holds" = ⟨#[95, 108, 97, 119, 95, 104, 111, 108, 100, 115]⟩ := by kernel_rfl!
    have S27 : Str.ofString "_law_is_due" = ⟨#[95, 108, 97, 119, 95, 105, 115, 95, 100, 117, 101]⟩ := by kernel_rfl!
    have S28 : Str.ofString "_law_is_label_right" = ⟨#[95, 108, 97, 119, 95, 105, 115, 95, 108, 97, 98, 101, 108, 95, 114, 105, 103, 104, 116]⟩ := by kernel_rfl!
    have S29 : Str.ofString "_law_is_so" = ⟨#[95, 108, 97, 119, 95, 105, 115, 95, 115, 111]⟩ := by kernel_rfl!
    have S30 : Str.ofString "_law_many" = ⟨#[95, 108, 97, 119, 95, 109, 97, 110, 121]⟩ := by kernel_rfl!
    have S31 : Str.ofString "_law_mask" = ⟨#[95, 108, 97, 119, 95, 109, 97, 115, 107]⟩ := by kernel_rfl!
    have S32 : Str.ofString "_law_plan" = ⟨#[95, 108, 97, 119, 95, 112, 108, 97, 110]⟩ := by kernel_rfl!
    have S33 : Str.ofString "_law_sorted" = ⟨#[95, 108, 97, 119, 95, 115, 111, 114, 116, 101, 100]⟩ := by kernel_rfl!
    have S34 : Str.ofString "a signature that is a part of others is not abstract" = ⟨#[97, 32, 115, 105, 103, 110, 97, 116, 117, 114, 101, 32, 116, 104, 97, 116, 32, 105, 115, 32, 97, 32, 112, 97, 114, 116, 32, 111, 102, 32, 111, 116, 104, 101, 114, 115, 32, 105, 115, 32, 110, 111, 116, 32, 97, 98, 115, 116, 114, 97, 99, 116]⟩ := by kernel_rfl!
    have S35 : Str.ofString "able" = ⟨#[97, 98, 108, 101]⟩ := by kernel_rfl!
    have S36 : Str.ofString "above" = ⟨#[97, 98, 111, 118, 101]⟩ := by kernel_rfl!
    have S37 : Str.ofString "abs" = ⟨#[97, 98, 115]⟩ := by kernel_rfl!
    have S38 : Str.ofString "all_above" = ⟨#[97, 108, 108, 95, 97, 98, 111, 118, 101]⟩ := by kernel_rfl!
    have S39 : Str.ofString "all_fields" = ⟨#[97, 108, 108, 95, 102, 105, 101, 108, 100, 115]⟩ := by kernel_rfl!
    have S40 : Str.ofString "and" = ⟨#[97, 110, 100]⟩ := by kernel_rfl!
    have S41 : Str.ofString "append" = ⟨#[97, 112, 112, 101, 110, 100]⟩ := by kernel_rfl!
    have S42 : Str.ofString "at" = ⟨#[97, 116]⟩ := by kernel_rfl!
    have S43 : Str.ofString "bits" = ⟨#[98, 105, 116, 115]⟩ := by kernel_rfl!
    have S44 : Str.ofString "calls" = ⟨#[99, 97, 108, 108, 115]⟩ := by kernel_rfl!
    have S45 : Str.ofString "cells" = ⟨#[99, 101, 108, 108, 115]⟩ := by kernel_rfl!
    have S46 : Str.ofString "children" = ⟨#[99, 104, 105, 108, 100, 114, 101, 110]⟩ := by kernel_rfl!
    have S47 : Str.ofString "children_formulas" = ⟨#[99, 104, 105, 108, 100, 114, 101, 110, 95, 102, 111, 114, 109, 117, 108, 97, 115]⟩ := by kernel_rfl!
    have S48 : Str.ofString "code" = ⟨#[99, 111, 100, 101]⟩ := by kernel_rfl!
    have S49 : Str.ofString "count" = ⟨#[99, 111, 117, 110, 116]⟩ := by kernel_rfl!
    have S50 : Str.ofString "direct" = ⟨#[100, 105, 114, 101, 99, 116]⟩ := by kernel_rfl!
    have S51 : Str.ofString "due" = ⟨#[100, 117, 101]⟩ := by kernel_rfl!
    have S52 : Str.ofString "entries" = ⟨#[101, 110, 116, 114, 105, 101, 115]⟩ := by kernel_rfl!
    have S53 : Str.ofString "enumerate" = ⟨#[101, 110, 117, 109, 101, 114, 97, 116, 101]⟩ := by kernel_rfl!
    have S54 : Str.ofString "env" = ⟨#[101, 110, 118]⟩ := by kernel_rfl!
    have S55 : Str.ofString "expr" = ⟨#[101, 120, 112, 114]⟩ := by kernel_rfl!
    have S56 : Str.ofString "exprs" = ⟨#[101, 120, 112, 114, 115]⟩ := by kernel_rfl!
    have S57 : Str.ofString "extend" = ⟨#[101, 120, 116, 101, 110, 100]⟩ := by kernel_rfl!
    have S58 : Str.ofString "fact_formulas" = ⟨#[102, 97, 99, 116, 95, 102, 111, 114, 109, 117, 108, 97, 115]⟩ := by kernel_rfl!
    have S59 : Str.ofString "facts" = ⟨#[102, 97, 99, 116, 115]⟩ := by kernel_rfl!
    have S60 : Str.ofString "feed" = ⟨#[102, 101, 101, 100]⟩ := by kernel_rfl!
    have S61 : Str.ofString "field" = ⟨#[102, 105, 101, 108, 100]⟩ := by kernel_rfl!
    have S62 : Str.ofString "field " = ⟨#[102, 105, 101, 108, 100, 32]⟩ := by kernel_rfl!
    have S63 : Str.ofString "field_formulas" = ⟨#[102, 105, 101, 108, 100, 95, 102, 111, 114, 109, 117, 108, 97, 115]⟩ := by kernel_rfl!
    have S64 : Str.ofString "fields" = ⟨#[102, 105, 101, 108, 100, 115]⟩ := by kernel_rfl!
    have S65 : Str.ofString "for_each" = ⟨#[102, 111, 114, 95, 101, 97, 99, 104]⟩ := by kernel_rfl!
    have S66 : Str.ofString "formula" = ⟨#[102, 111, 114, 109, 117, 108, 97]⟩ := by kernel_rfl!
    have S67 : Str.ofString "formulas" = ⟨#[102, 111, 114, 109, 117, 108, 97, 115]⟩ := by kernel_rfl!
    have S68 : Str.ofString "found" = ⟨#[102, 111, 117, 110, 100]⟩ := by kernel_rfl!
    have S69 : Str.ofString "fun" = ⟨#[102, 117, 110]⟩ := by kernel_rfl!
    have S70 : Str.ofString "group" = ⟨#[103, 114, 111, 117, 112]⟩ := by kernel_rfl!
    have S71 : Str.ofString "height" = ⟨#[104, 101, 105, 103, 104, 116]⟩ := by kernel_rfl!
    have S72 : Str.ofString "here" = ⟨#[104, 101, 114, 101]⟩ := by kernel_rfl!
    have S73 : Str.ofString "implied" = ⟨#[105, 109, 112, 108, 105, 101, 100]⟩ := by kernel_rfl!
    have S74 : Str.ofString "in" = ⟨#[105, 110]⟩ := by kernel_rfl!
    have S75 : Str.ofString "int" = ⟨#[105, 110, 116]⟩ := by kernel_rfl!
    have S76 : Str.ofString "is_abstract" = ⟨#[105, 115, 95, 97, 98, 115, 116, 114, 97, 99, 116]⟩ := by kernel_rfl!
    have S77 : Str.ofString "is_disj" = ⟨#[105, 115, 95, 100, 105, 115, 106]⟩ := by kernel_rfl!
    have S78 : Str.ofString "is_subset" = ⟨#[105, 115, 95, 115, 117, 98, 115, 101, 116]⟩ := by kernel_rfl!
    have S79 : Str.ofString "is_whole" = ⟨#[105, 115, 95, 119, 104, 111, 108, 101]⟩ := by kernel_rfl!
    have S80 : Str.ofString "item" = ⟨#[105, 116, 101, 109]⟩ := by kernel_rfl!
    have S81 : Str.ofString "items" = ⟨#[105, 116, 101, 109, 115]⟩ := by kernel_rfl!
    have S82 : Str.ofString "j" = ⟨#[106]⟩ := by kernel_rfl!
    have S83 : Str.ofString "join" = ⟨#[106, 111, 105, 110]⟩ := by kernel_rfl!
    have S84 : Str.ofString "joined" = ⟨#[106, 111, 105, 110, 101, 100]⟩ := by kernel_rfl!
    have S85 : Str.ofString "k" = ⟨#[107]⟩ := by kernel_rfl!
    have S86 : Str.ofString "kinds" = ⟨#[107, 105, 110, 100, 115]⟩ := by kernel_rfl!
    have S87 : Str.ofString "label" = ⟨#[108, 97, 98, 101, 108]⟩ := by kernel_rfl!
    have S88 : Str.ofString "late" = ⟨#[108, 97, 116, 101]⟩ := by kernel_rfl!
    have S89 : Str.ofString "law" = ⟨#[108, 97, 119]⟩ := by kernel_rfl!
    have S90 : Str.ofString "left" = ⟨#[108, 101, 102, 116]⟩ := by kernel_rfl!
    have S91 : Str.ofString "len" = ⟨#[108, 101, 110]⟩ := by kernel_rfl!
    have S92 : Str.ofString "list" = ⟨#[108, 105, 115, 116]⟩ := by kernel_rfl!
    have S93 : Str.ofString "lone" = ⟨#[108, 111, 110, 101]⟩ := by kernel_rfl!
    have S94 : Str.ofString "look_above" = ⟨#[108, 111, 111, 107, 95, 97, 98, 111, 118, 101]⟩ := by kernel_rfl!
    have S95 : Str.ofString "look_fields" = ⟨#[108, 111, 111, 107, 95, 102, 105, 101, 108, 100, 115]⟩ := by kernel_rfl!
    have S96 : Str.ofString "lot" = ⟨#[108, 111, 116]⟩ := by kernel_rfl!
    have S97 : Str.ofString "lots" = ⟨#[108, 111, 116, 115]⟩ := by kernel_rfl!
    have S98 : Str.ofString "lowers" = ⟨#[108, 111, 119, 101, 114, 115]⟩ := by kernel_rfl!
    have S99 : Str.ofString "many" = ⟨#[109, 97, 110, 121]⟩ := by kernel_rfl!
    have S100 : Str.ofString "mark" = ⟨#[109, 97, 114, 107]⟩ := by kernel_rfl!
    have S101 : Str.ofString "mask" = ⟨#[109, 97, 115, 107]⟩ := by kernel_rfl!
    have S102 : Str.ofString "masks" = ⟨#[109, 97, 115, 107, 115]⟩ := by kernel_rfl!
    have S103 : Str.ofString "meet" = ⟨#[109, 101, 101, 116]⟩ := by kernel_rfl!
    have S104 : Str.ofString "mix" = ⟨#[109, 105, 120]⟩ := by kernel_rfl!
    have S105 : Str.ofString "much" = ⟨#[109, 117, 99, 104]⟩ := by kernel_rfl!
    have S106 : Str.ofString "mult" = ⟨#[109, 117, 108, 116]⟩ := by kernel_rfl!
    have S107 : Str.ofString "name" = ⟨#[110, 97, 109, 101]⟩ := by kernel_rfl!
    have S108 : Str.ofString "names" = ⟨#[110, 97, 109, 101, 115]⟩ := by kernel_rfl!
    have S109 : Str.ofString "no" = ⟨#[110, 111]⟩ := by kernel_rfl!
    have S110 : Str.ofString "node" = ⟨#[110, 111, 100, 101]⟩ := by kernel_rfl!
    have S111 : Str.ofString "numbers" = ⟨#[110, 117, 109, 98, 101, 114, 115]⟩ := by kernel_rfl!
    have S112 : Str.ofString "one" = ⟨#[111, 110, 101]⟩ := by kernel_rfl!
    have S113 : Str.ofString "open" = ⟨#[111, 112, 101, 110]⟩ := by kernel_rfl!
    have S114 : Str.ofString "opened" = ⟨#[111, 112, 101, 110, 101, 100]⟩ := by kernel_rfl!
    have S115 : Str.ofString "opener" = ⟨#[111, 112, 101, 110, 101, 114]⟩ := by kernel_rfl!
    have S116 : Str.ofString "ordered" = ⟨#[111, 114, 100, 101, 114, 101, 100]⟩ := by kernel_rfl!
    have S117 : Str.ofString "other" = ⟨#[111, 116, 104, 101, 114]⟩ := by kernel_rfl!
    have S118 : Str.ofString "own" = ⟨#[111, 119, 110]⟩ := by kernel_rfl!
    have S119 : Str.ofString "own_fields" = ⟨#[111, 119, 110, 95, 102, 105, 101, 108, 100, 115]⟩ := by kernel_rfl!
    have S120 : Str.ofString "parent" = ⟨#[112, 97, 114, 101, 110, 116]⟩ := by kernel_rfl!
    have S121 : Str.ofString "parents_first" = ⟨#[112, 97, 114, 101, 110, 116, 115, 95, 102, 105, 114, 115, 116]⟩ := by kernel_rfl!
    have S122 : Str.ofString "part" = ⟨#[112, 97, 114, 116]⟩ := by kernel_rfl!
    have S123 : Str.ofString "parts" = ⟨#[112, 97, 114, 116, 115]⟩ := by kernel_rfl!
    have S124 : Str.ofString "peak" = ⟨#[112, 101, 97, 107]⟩ := by kernel_rfl!
    have S125 : Str.ofString "place_formulas" = ⟨#[112, 108, 97, 99, 101, 95, 102, 111, 114, 109, 117, 108, 97, 115]⟩ := by kernel_rfl!
    have S126 : Str.ofString "plan" = ⟨#[112, 108, 97, 110]⟩ := by kernel_rfl!
    have S127 : Str.ofString "pop" = ⟨#[112, 111, 112]⟩ := by kernel_rfl!
    have S128 : Str.ofString "pred" = ⟨#[112, 114, 101, 100]⟩ := by kernel_rfl!
    have S129 : Str.ofString "range" = ⟨#[114, 97, 110, 103, 101]⟩ := by kernel_rfl!
    have S130 : Str.ofString "rel" = ⟨#[114, 101, 108]⟩ := by kernel_rfl!
    have S131 : Str.ofString "relation" = ⟨#[114, 101, 108, 97, 116, 105, 111, 110]⟩ := by kernel_rfl!
    have S132 : Str.ofString "remove" = ⟨#[114, 101, 109, 111, 118, 101]⟩ := by kernel_rfl!
    have S133 : Str.ofString "rest" = ⟨#[114, 101, 115, 116]⟩ := by kernel_rfl!
    have S134 : Str.ofString "row" = ⟨#[114, 111, 119]⟩ := by kernel_rfl!
    have S135 : Str.ofString "script" = ⟨#[115, 99, 114, 105, 112, 116]⟩ := by kernel_rfl!
    have S136 : Str.ofString "seen" = ⟨#[115, 101, 101, 110]⟩ := by kernel_rfl!
    have S137 : Str.ofString "self" = ⟨#[115, 101, 108, 102]⟩ := by kernel_rfl!
    have S138 : Str.ofString "sig" = ⟨#[115, 105, 103]⟩ := by kernel_rfl!
    have S139 : Str.ofString "sig " = ⟨#[115, 105, 103, 32]⟩ := by kernel_rfl!
    have S140 : Str.ofString "signatures" = ⟨#[115, 105, 103, 110, 97, 116, 117, 114, 101, 115]⟩ := by kernel_rfl!
    have S141 : Str.ofString "some" = ⟨#[115, 111, 109, 101]⟩ := by kernel_rfl!
    have S142 : Str.ofString "spent" = ⟨#[115, 112, 101, 110, 116]⟩ := by kernel_rfl!
    have S143 : Str.ofString "spot" = ⟨#[115, 112, 111, 116]⟩ := by kernel_rfl!
    have S144 : Str.ofString "spots" = ⟨#[115, 112, 111, 116, 115]⟩ := by kernel_rfl!
    have S145 : Str.ofString "stands" = ⟨#[115, 116, 97, 110, 100, 115]⟩ := by kernel_rfl!
    have S146 : Str.ofString "sum" = ⟨#[115, 117, 109]⟩ := by kernel_rfl!
    have S147 : Str.ofString "super" = ⟨#[115, 117, 112, 101, 114]⟩ := by kernel_rfl!
    have S148 : Str.ofString "supers" = ⟨#[115, 117, 112, 101, 114, 115]⟩ := by kernel_rfl!
    have S149 : Str.ofString "take_order" = ⟨#[116, 97, 107, 101, 95, 111, 114, 100, 101, 114]⟩ := by kernel_rfl!
    have S150 : Str.ofString "take_sig" = ⟨#[116, 97, 107, 101, 95, 115, 105, 103]⟩ := by kernel_rfl!
    have S151 : Str.ofString "the field " = ⟨#[116, 104, 101, 32, 102, 105, 101, 108, 100, 32]⟩ := by kernel_rfl!
    have S152 : Str.ofString "the signature " = ⟨#[116, 104, 101, 32, 115, 105, 103, 110, 97, 116, 117, 114, 101, 32]⟩ := by kernel_rfl!
    have S153 : Str.ofString "this" = ⟨#[116, 104, 105, 115]⟩ := by kernel_rfl!
    have S154 : Str.ofString "this_env" = ⟨#[116, 104, 105, 115, 95, 101, 110, 118]⟩ := by kernel_rfl!
    have S155 : Str.ofString "told" = ⟨#[116, 111, 108, 100]⟩ := by kernel_rfl!
    have S156 : Str.ofString "truth" = ⟨#[116, 114, 117, 116, 104]⟩ := by kernel_rfl!
    have S157 : Str.ofString "tuple" = ⟨#[116, 117, 112, 108, 101]⟩ := by kernel_rfl!
    have S158 : Str.ofString "under" = ⟨#[117, 110, 100, 101, 114]⟩ := by kernel_rfl!
    have S159 : Str.ofString "union" = ⟨#[117, 110, 105, 111, 110]⟩ := by kernel_rfl!
    have S160 : Str.ofString "united" = ⟨#[117, 110, 105, 116, 101, 100]⟩ := by kernel_rfl!
    have S161 : Str.ofString "united_implicit" = ⟨#[117, 110, 105, 116, 101, 100, 95, 105, 109, 112, 108, 105, 99, 105, 116]⟩ := by kernel_rfl!
    have S162 : Str.ofString "uppers" = ⟨#[117, 112, 112, 101, 114, 115]⟩ := by kernel_rfl!
    have S163 : Str.ofString "value" = ⟨#[118, 97, 108, 117, 101]⟩ := by kernel_rfl!
    have S164 : Str.ofString "waiting" = ⟨#[119, 97, 105, 116, 105, 110, 103]⟩ := by kernel_rfl!
    have S165 : Str.ofString "whole" = ⟨#[119, 104, 111, 108, 101]⟩ := by kernel_rfl!
    have S166 : Str.ofString "wide" = ⟨#[119, 105, 100, 101]⟩ := by kernel_rfl!
    have S167 : Str.ofString "zip" = ⟨#[122, 105, 112]⟩ := by kernel_rfl!
    unfold fnAt mthAt body0 PySem.Challenge.pw_nz0399_01
    simp only [List.getElem?_cons_succ, List.getElem?_cons_zero, clsBody, toFn, fdef, Option.elim, List.map_cons, List.map_nil, S0, S1, S2, S3, S4, S5, S6, S7, S8, S9, S10, S11, S12, S13, S14, S15, S16, S17, S18, S19, S20, S21, S22, S23, S24, S25, S26, S27, S28, S29, S30, S31, S32, S33, S34, S35, S36, S37, S38, S39, S40, S41, S42, S43, S44, S45, S46, S47, S48, S49, S50, S51, S52, S53, S54, S55, S56, S57, S58, S59, S60, S61, S62, S63, S64, S65, S66, S67, S68, S69, S70, S71, S72, S73, S74, S75, S76, S77, S78, S79, S80, S81, S82, S83, S84, S85, S86, S87, S88, S89, S90, S91, S92, S93, S94, S95, S96, S97, S98, S99, S100, S101, S102, S103, S104, S105, S106, S107, S108, S109, S110, S111, S112, S113, S114, S115, S116, S117, S118, S119, S120, S121, S122, S123, S124, S125, S126, S127, S128, S129, S130, S131, S132, S133, S134, S135, S136, S137, S138, S139, S140, S141, S142, S143, S144, S145, S146, S147, S148, S149, S150, S151, S152, S153, S154, S155, S156, S157, S158, S159, S160, S161, S162, S163, S164, S165, S166, S167]
    rfl)
  exact fun v _ => v
noncomputable def N_joined : {f : Fn // f = fnAt 3} := by
  refine ⟨(?f : (v : Fn) → some v = NL[0]? → Fn) _ (by unfold NL; simp only [List.getElem?_cons_succ, List.getElem?_cons_zero]; rfl), ?h⟩
  case f => exact fun v _ => v
  case h => kernel_rfl
noncomputable def N_united : {f : Fn // f = fnAt 4} := by
  refine ⟨(?f : (v : Fn) → some v = NL[1]? → Fn) _ (by unfold NL; simp only [List.getElem?_cons_succ, List.getElem?_cons_zero]; rfl), ?h⟩
  case f => exact fun v _ => v
  case h => kernel_rfl
noncomputable def N_relation : {f : Fn // f = fnAt 6} := by
  refine ⟨(?f : (v : Fn) → some v = NL[2]? → Fn) _ (by unfold NL; simp only [List.getElem?_cons_succ, List.getElem?_cons_zero]; rfl), ?h⟩
  case f => exact fun v _ => v
  case h => kernel_rfl
noncomputable def N_place_formulas : {f : Fn // f = fnAt 8} := by
  refine ⟨(?f : (v : Fn) → some v = NL[3]? → Fn) _ (by unfold NL; simp only [List.getElem?_cons_succ, List.getElem?_cons_zero]; rfl), ?h⟩
  case f => exact fun v _ => v
  case h => kernel_rfl
noncomputable def N_children_formulas : {f : Fn // f = fnAt 9} := by
  refine ⟨(?f : (v : Fn) → some v = NL[4]? → Fn) _ (by unfold NL; simp only [List.getElem?_cons_succ, List.getElem?_cons_zero]; rfl), ?h⟩
  case f => exact fun v _ => v
  case h => kernel_rfl
noncomputable def N_fact_formulas : {f : Fn // f = fnAt 10} := by
  refine ⟨(?f : (v : Fn) → some v = NL[5]? → Fn) _ (by unfold NL; simp only [List.getElem?_cons_succ, List.getElem?_cons_zero]; rfl), ?h⟩
  case f => exact fun v _ => v
  case h => kernel_rfl
noncomputable def N_implied : {f : Fn // f = fnAt 12} := by
  refine ⟨(?f : (v : Fn) → some v = NL[6]? → Fn) _ (by unfold NL; simp only [List.getElem?_cons_succ, List.getElem?_cons_zero]; rfl), ?h⟩
  case f => exact fun v _ => v
  case h => kernel_rfl
noncomputable def N_law_draw : {f : Fn // f = fnAt 37} := by
  refine ⟨(?f : (v : Fn) → some v = NL[7]? → Fn) _ (by unfold NL; simp only [List.getElem?_cons_succ, List.getElem?_cons_zero]; rfl), ?h⟩
  case f => exact fun v _ => v
  case h => kernel_rfl
noncomputable def N_law_plan : {f : Fn // f = fnAt 38} := by
  refine ⟨(?f : (v : Fn) → some v = NL[8]? → Fn) _ (by unfold NL; simp only [List.getElem?_cons_succ, List.getElem?_cons_zero]; rfl), ?h⟩
  case f => exact fun v _ => v
  case h => kernel_rfl
noncomputable def N_law_above : {f : Fn // f = fnAt 39} := by
  refine ⟨(?f : (v : Fn) → some v = NL[9]? → Fn) _ (by unfold NL; simp only [List.getElem?_cons_succ, List.getElem?_cons_zero]; rfl), ?h⟩
  case f => exact fun v _ => v
  case h => kernel_rfl
noncomputable def N_law_below : {f : Fn // f = fnAt 40} := by
  refine ⟨(?f : (v : Fn) → some v = NL[10]? → Fn) _ (by unfold NL; simp only [List.getElem?_cons_succ, List.getElem?_cons_zero]; rfl), ?h⟩
  case f => exact fun v _ => v
  case h => kernel_rfl
noncomputable def N_law_sorted : {f : Fn // f = fnAt 41} := by
  refine ⟨(?f : (v : Fn) → some v = NL[11]? → Fn) _ (by unfold NL; simp only [List.getElem?_cons_succ, List.getElem?_cons_zero]; rfl), ?h⟩
  case f => exact fun v _ => v
  case h => kernel_rfl
noncomputable def N_law_many : {f : Fn // f = fnAt 42} := by
  refine ⟨(?f : (v : Fn) → some v = NL[12]? → Fn) _ (by unfold NL; simp only [List.getElem?_cons_succ, List.getElem?_cons_zero]; rfl), ?h⟩
  case f => exact fun v _ => v
  case h => kernel_rfl
noncomputable def N_law_is_so : {f : Fn // f = fnAt 43} := by
  refine ⟨(?f : (v : Fn) → some v = NL[13]? → Fn) _ (by unfold NL; simp only [List.getElem?_cons_succ, List.getElem?_cons_zero]; rfl), ?h⟩
  case f => exact fun v _ => v
  case h => kernel_rfl
noncomputable def N_law_mask : {f : Fn // f = fnAt 44} := by
  refine ⟨(?f : (v : Fn) → some v = NL[14]? → Fn) _ (by unfold NL; simp only [List.getElem?_cons_succ, List.getElem?_cons_zero]; rfl), ?h⟩
  case f => exact fun v _ => v
  case h => kernel_rfl
noncomputable def N_law_holds : {f : Fn // f = fnAt 45} := by
  refine ⟨(?f : (v : Fn) → some v = NL[15]? → Fn) _ (by unfold NL; simp only [List.getElem?_cons_succ, List.getElem?_cons_zero]; rfl), ?h⟩
  case f => exact fun v _ => v
  case h => kernel_rfl
noncomputable def N_law_is_due : {f : Fn // f = fnAt 46} := by
  refine ⟨(?f : (v : Fn) → some v = NL[16]? → Fn) _ (by unfold NL; simp only [List.getElem?_cons_succ, List.getElem?_cons_zero]; rfl), ?h⟩
  case f => exact fun v _ => v
  case h => kernel_rfl
noncomputable def N_law_is_label_right : {f : Fn // f = fnAt 47} := by
  refine ⟨(?f : (v : Fn) → some v = NL[17]? → Fn) _ (by unfold NL; simp only [List.getElem?_cons_succ, List.getElem?_cons_zero]; rfl), ?h⟩
  case f => exact fun v _ => v
  case h => kernel_rfl
noncomputable def N_law : {f : Fn // f = fnAt 48} := by
  refine ⟨(?f : (v : Fn) → some v = NL[18]? → Fn) _ (by unfold NL; simp only [List.getElem?_cons_succ, List.getElem?_cons_zero]; rfl), ?h⟩
  case f => exact fun v _ => v
  case h => kernel_rfl
noncomputable def N_Names_init : {f : Fn // f = mthAt 31 0} := by
  refine ⟨(?f : (v : Fn) → some v = NL[19]? → Fn) _ (by unfold NL; simp only [List.getElem?_cons_succ, List.getElem?_cons_zero]; rfl), ?h⟩
  case f => exact fun v _ => v
  case h => kernel_rfl
noncomputable def N_Names_this_env : {f : Fn // f = mthAt 31 9} := by
  refine ⟨(?f : (v : Fn) → some v = NL[20]? → Fn) _ (by unfold NL; simp only [List.getElem?_cons_succ, List.getElem?_cons_zero]; rfl), ?h⟩
  case f => exact fun v _ => v
  case h => kernel_rfl
noncomputable def N_Opener_init : {f : Fn // f = mthAt 32 0} := by
  refine ⟨(?f : (v : Fn) → some v = NL[21]? → Fn) _ (by unfold NL; simp only [List.getElem?_cons_succ, List.getElem?_cons_zero]; rfl), ?h⟩
  case f => exact fun v _ => v
  case h => kernel_rfl
noncomputable def N_Signatures_init : {f : Fn // f = mthAt 35 0} := by
  refine ⟨(?f : (v : Fn) → some v = NL[22]? → Fn) _ (by unfold NL; simp only [List.getElem?_cons_succ, List.getElem?_cons_zero]; rfl), ?h⟩
  case f => exact fun v _ => v
  case h => kernel_rfl
noncomputable def N_Signatures_take_sig : {f : Fn // f = mthAt 35 1} := by
  refine ⟨(?f : (v : Fn) → some v = NL[23]? → Fn) _ (by unfold NL; simp only [List.getElem?_cons_succ, List.getElem?_cons_zero]; rfl), ?h⟩
  case f => exact fun v _ => v
  case h => kernel_rfl
noncomputable def N_Signatures_look_above : {f : Fn // f = mthAt 35 2} := by
  refine ⟨(?f : (v : Fn) → some v = NL[24]? → Fn) _ (by unfold NL; simp only [List.getElem?_cons_succ, List.getElem?_cons_zero]; rfl), ?h⟩
  case f => exact fun v _ => v
  case h => kernel_rfl
noncomputable def N_Signatures_direct : {f : Fn // f = mthAt 35 3} := by
  refine ⟨(?f : (v : Fn) → some v = NL[25]? → Fn) _ (by unfold NL; simp only [List.getElem?_cons_succ, List.getElem?_cons_zero]; rfl), ?h⟩
  case f => exact fun v _ => v
  case h => kernel_rfl
noncomputable def N_Signatures_parents_first : {f : Fn // f = mthAt 35 4} := by
  refine ⟨(?f : (v : Fn) → some v = NL[26]? → Fn) _ (by unfold NL; simp only [List.getElem?_cons_succ, List.getElem?_cons_zero]; rfl), ?h⟩
  case f => exact fun v _ => v
  case h => kernel_rfl
noncomputable def N_Signatures_all_fields : {f : Fn // f = mthAt 35 5} := by
  refine ⟨(?f : (v : Fn) → some v = NL[27]? → Fn) _ (by unfold NL; simp only [List.getElem?_cons_succ, List.getElem?_cons_zero]; rfl), ?h⟩
  case f => exact fun v _ => v
  case h => kernel_rfl
noncomputable def N_Signatures_look_fields : {f : Fn // f = mthAt 35 6} := by
  refine ⟨(?f : (v : Fn) → some v = NL[28]? → Fn) _ (by unfold NL; simp only [List.getElem?_cons_succ, List.getElem?_cons_zero]; rfl), ?h⟩
  case f => exact fun v _ => v
  case h => kernel_rfl
noncomputable def N_Signatures_names : {f : Fn // f = mthAt 35 8} := by
  refine ⟨(?f : (v : Fn) → some v = NL[29]? → Fn) _ (by unfold NL; simp only [List.getElem?_cons_succ, List.getElem?_cons_zero]; rfl), ?h⟩
  case f => exact fun v _ => v
  case h => kernel_rfl
noncomputable def N_Signatures_parent : {f : Fn // f = mthAt 35 11} := by
  refine ⟨(?f : (v : Fn) → some v = NL[30]? → Fn) _ (by unfold NL; simp only [List.getElem?_cons_succ, List.getElem?_cons_zero]; rfl), ?h⟩
  case f => exact fun v _ => v
  case h => kernel_rfl
noncomputable def N_Signatures_supers : {f : Fn // f = mthAt 35 12} := by
  refine ⟨(?f : (v : Fn) → some v = NL[31]? → Fn) _ (by unfold NL; simp only [List.getElem?_cons_succ, List.getElem?_cons_zero]; rfl), ?h⟩
  case f => exact fun v _ => v
  case h => kernel_rfl
noncomputable def N_Signatures_is_subset : {f : Fn // f = mthAt 35 13} := by
  refine ⟨(?f : (v : Fn) → some v = NL[32]? → Fn) _ (by unfold NL; simp only [List.getElem?_cons_succ, List.getElem?_cons_zero]; rfl), ?h⟩
  case f => exact fun v _ => v
  case h => kernel_rfl
noncomputable def N_Signatures_children : {f : Fn // f = mthAt 35 14} := by
  refine ⟨(?f : (v : Fn) → some v = NL[33]? → Fn) _ (by unfold NL; simp only [List.getElem?_cons_succ, List.getElem?_cons_zero]; rfl), ?h⟩
  case f => exact fun v _ => v
  case h => kernel_rfl
noncomputable def N_Signatures_all_above : {f : Fn // f = mthAt 35 17} := by
  refine ⟨(?f : (v : Fn) → some v = NL[34]? → Fn) _ (by unfold NL; simp only [List.getElem?_cons_succ, List.getElem?_cons_zero]; rfl), ?h⟩
  case f => exact fun v _ => v
  case h => kernel_rfl
noncomputable def N_Signatures_is_abstract : {f : Fn // f = mthAt 35 18} := by
  refine ⟨(?f : (v : Fn) → some v = NL[35]? → Fn) _ (by unfold NL; simp only [List.getElem?_cons_succ, List.getElem?_cons_zero]; rfl), ?h⟩
  case f => exact fun v _ => v
  case h => kernel_rfl
noncomputable def N_Signatures_mult : {f : Fn // f = mthAt 35 19} := by
  refine ⟨(?f : (v : Fn) → some v = NL[36]? → Fn) _ (by unfold NL; simp only [List.getElem?_cons_succ, List.getElem?_cons_zero]; rfl), ?h⟩
  case f => exact fun v _ => v
  case h => kernel_rfl
noncomputable def N_Signatures_fields : {f : Fn // f = mthAt 35 20} := by
  refine ⟨(?f : (v : Fn) → some v = NL[37]? → Fn) _ (by unfold NL; simp only [List.getElem?_cons_succ, List.getElem?_cons_zero]; rfl), ?h⟩
  case f => exact fun v _ => v
  case h => kernel_rfl
noncomputable def N_Signatures_facts : {f : Fn // f = mthAt 35 21} := by
  refine ⟨(?f : (v : Fn) → some v = NL[38]? → Fn) _ (by unfold NL; simp only [List.getElem?_cons_succ, List.getElem?_cons_zero]; rfl), ?h⟩
  case f => exact fun v _ => v
  case h => kernel_rfl
end Mine

-- B2
namespace Mine

structure Par where
  cells : List Int
  mix : Int
noncomputable def Par.CS (_ : Par) : Addr := 693
noncomputable def Par.CO (_ : Par) : Addr := 526
theorem Par.ne (p : Par) : p.CS ≠ p.CO := by unfold Par.CS Par.CO; decide

noncomputable def fnsX : List (Str × Fn) := [
  ((⟨#[106, 111, 105, 110, 101, 100]⟩ : Str), N_joined.1),
  ((⟨#[117, 110, 105, 116, 101, 100]⟩ : Str), N_united.1),
  ((⟨#[117, 110, 105, 116, 101, 100, 95, 105, 109, 112, 108, 105, 99, 105, 116]⟩ : Str), N_united.1),
  ((⟨#[114, 101, 108, 97, 116, 105, 111, 110]⟩ : Str), N_relation.1),
  ((⟨#[112, 108, 97, 99, 101, 95, 102, 111, 114, 109, 117, 108, 97, 115]⟩ : Str), N_place_formulas.1),
  ((⟨#[99, 104, 105, 108, 100, 114, 101, 110, 95, 102, 111, 114, 109, 117, 108, 97, 115]⟩ : Str), N_children_formulas.1),
  ((⟨#[102, 97, 99, 116, 95, 102, 111, 114, 109, 117, 108, 97, 115]⟩ : Str), N_fact_formulas.1),
  ((⟨#[105, 109, 112, 108, 105, 101, 100]⟩ : Str), N_implied.1),
  ((⟨#[95, 108, 97, 119, 95, 100, 114, 97, 119]⟩ : Str), N_law_draw.1),
  ((⟨#[95, 108, 97, 119, 95, 112, 108, 97, 110]⟩ : Str), N_law_plan.1),
  ((⟨#[95, 108, 97, 119, 95, 97, 98, 111, 118, 101]⟩ : Str), N_law_above.1),
  ((⟨#[95, 108, 97, 119, 95, 98, 101, 108, 111, 119]⟩ : Str), N_law_below.1),
  ((⟨#[95, 108, 97, 119, 95, 115, 111, 114, 116, 101, 100]⟩ : Str), N_law_sorted.1),
  ((⟨#[95, 108, 97, 119, 95, 109, 97, 110, 121]⟩ : Str), N_law_many.1),
  ((⟨#[95, 108, 97, 119, 95, 105, 115, 95, 115, 111]⟩ : Str), N_law_is_so.1),
  ((⟨#[95, 108, 97, 119, 95, 109, 97, 115, 107]⟩ : Str), N_law_mask.1),
  ((⟨#[95, 108, 97, 119, 95, 104, 111, 108, 100, 115]⟩ : Str), N_law_holds.1),
  ((⟨#[95, 108, 97, 119, 95, 105, 115, 95, 100, 117, 101]⟩ : Str), N_law_is_due.1),
  ((⟨#[95, 108, 97, 119, 95, 105, 115, 95, 108, 97, 98, 101, 108, 95, 114, 105, 103, 104, 116]⟩ : Str), N_law_is_label_right.1),
  ((⟨#[78, 97, 109, 101, 115, 46, 116, 104, 105, 115, 95, 101, 110, 118]⟩ : Str), N_Names_this_env.1),
  ((⟨#[83, 105, 103, 110, 97, 116, 117, 114, 101, 115, 46, 116, 97, 107, 101, 95, 115, 105, 103]⟩ : Str), N_Signatures_take_sig.1),
  ((⟨#[83, 105, 103, 110, 97, 116, 117, 114, 101, 115, 46, 108, 111, 111, 107, 95, 97, 98, 111, 118, 101]⟩ : Str), N_Signatures_look_above.1),
  ((⟨#[83, 105, 103, 110, 97, 116, 117, 114, 101, 115, 46, 100, 105, 114, 101, 99, 116]⟩ : Str), N_Signatures_direct.1),
  ((⟨#[83, 105, 103, 110, 97, 116, 117, 114, 101, 115, 46, 112, 97, 114, 101, 110, 116, 115, 95, 102, 105, 114, 115, 116]⟩ : Str), N_Signatures_parents_first.1),
  ((⟨#[83, 105, 103, 110, 97, 116, 117, 114, 101, 115, 46, 97, 108, 108, 95, 102, 105, 101, 108, 100, 115]⟩ : Str), N_Signatures_all_fields.1),
  ((⟨#[83, 105, 103, 110, 97, 116, 117, 114, 101, 115, 46, 108, 111, 111, 107, 95, 102, 105, 101, 108, 100, 115]⟩ : Str), N_Signatures_look_fields.1),
  ((⟨#[83, 105, 103, 110, 97, 116, 117, 114, 101, 115, 46, 110, 97, 109, 101, 115]⟩ : Str), N_Signatures_names.1),
  ((⟨#[83, 105, 103, 110, 97, 116, 117, 114, 101, 115, 46, 112, 97, 114, 101, 110, 116]⟩ : Str), N_Signatures_parent.1),
  ((⟨#[83, 105, 103, 110, 97, 116, 117, 114, 101, 115, 46, 115, 117, 112, 101, 114, 115]⟩ : Str), N_Signatures_supers.1),
  ((⟨#[83, 105, 103, 110, 97, 116, 117, 114, 101, 115, 46, 105, 115, 95, 115, 117, 98, 115, 101, 116]⟩ : Str), N_Signatures_is_subset.1),
  ((⟨#[83, 105, 103, 110, 97, 116, 117, 114, 101, 115, 46, 99, 104, 105, 108, 100, 114, 101, 110]⟩ : Str), N_Signatures_children.1),
  ((⟨#[83, 105, 103, 110, 97, 116, 117, 114, 101, 115, 46, 97, 108, 108, 95, 97, 98, 111, 118, 101]⟩ : Str), N_Signatures_all_above.1),
  ((⟨#[83, 105, 103, 110, 97, 116, 117, 114, 101, 115, 46, 105, 115, 95, 97, 98, 115, 116, 114, 97, 99, 116]⟩ : Str), N_Signatures_is_abstract.1),
  ((⟨#[83, 105, 103, 110, 97, 116, 117, 114, 101, 115, 46, 109, 117, 108, 116]⟩ : Str), N_Signatures_mult.1),
  ((⟨#[83, 105, 103, 110, 97, 116, 117, 114, 101, 115, 46, 102, 105, 101, 108, 100, 115]⟩ : Str), N_Signatures_fields.1),
  ((⟨#[83, 105, 103, 110, 97, 116, 117, 114, 101, 115, 46, 102, 97, 99, 116, 115]⟩ : Str), N_Signatures_facts.1)]
noncomputable def fnNames : List Str := [(⟨#[106, 111, 105, 110, 101, 100]⟩ : Str), (⟨#[117, 110, 105, 116, 101, 100, 95, 105, 109, 112, 108, 105, 99, 105, 116]⟩ : Str), (⟨#[114, 101, 108, 97, 116, 105, 111, 110]⟩ : Str), (⟨#[112, 108, 97, 99, 101, 95, 102, 111, 114, 109, 117, 108, 97, 115]⟩ : Str), (⟨#[99, 104, 105, 108, 100, 114, 101, 110, 95, 102, 111, 114, 109, 117, 108, 97, 115]⟩ : Str), (⟨#[102, 97, 99, 116, 95, 102, 111, 114, 109, 117, 108, 97, 115]⟩ : Str), (⟨#[105, 109, 112, 108, 105, 101, 100]⟩ : Str), (⟨#[95, 108, 97, 119, 95, 100, 114, 97, 119]⟩ : Str), (⟨#[95, 108, 97, 119, 95, 112, 108, 97, 110]⟩ : Str), (⟨#[95, 108, 97, 119, 95, 97, 98, 111, 118, 101]⟩ : Str), (⟨#[95, 108, 97, 119, 95, 98, 101, 108, 111, 119]⟩ : Str), (⟨#[95, 108, 97, 119, 95, 115, 111, 114, 116, 101, 100]⟩ : Str), (⟨#[95, 108, 97, 119, 95, 109, 97, 110, 121]⟩ : Str), (⟨#[95, 108, 97, 119, 95, 105, 115, 95, 115, 111]⟩ : Str), (⟨#[95, 108, 97, 119, 95, 109, 97, 115, 107]⟩ : Str), (⟨#[95, 108, 97, 119, 95, 104, 111, 108, 100, 115]⟩ : Str), (⟨#[95, 108, 97, 119, 95, 105, 115, 95, 100, 117, 101]⟩ : Str), (⟨#[95, 108, 97, 119, 95, 105, 115, 95, 108, 97, 98, 101, 108, 95, 114, 105, 103, 104, 116]⟩ : Str), (⟨#[83, 105, 103, 110, 97, 116, 117, 114, 101, 115]⟩ : Str), (⟨#[79, 112, 101, 110, 101, 114]⟩ : Str)]
noncomputable def methS : List (Str × Str) := [((⟨#[116, 97, 107, 101, 95, 115, 105, 103]⟩ : Str), (⟨#[83, 105, 103, 110, 97, 116, 117, 114, 101, 115, 46, 116, 97, 107, 101, 95, 115, 105, 103]⟩ : Str)), ((⟨#[108, 111, 111, 107, 95, 97, 98, 111, 118, 101]⟩ : Str), (⟨#[83, 105, 103, 110, 97, 116, 117, 114, 101, 115, 46, 108, 111, 111, 107, 95, 97, 98, 111, 118, 101]⟩ : Str)), ((⟨#[100, 105, 114, 101, 99, 116]⟩ : Str), (⟨#[83, 105, 103, 110, 97, 116, 117, 114, 101, 115, 46, 100, 105, 114, 101, 99, 116]⟩ : Str)), ((⟨#[112, 97, 114, 101, 110, 116, 115, 95, 102, 105, 114, 115, 116]⟩ : Str), (⟨#[83, 105, 103, 110, 97, 116, 117, 114, 101, 115, 46, 112, 97, 114, 101, 110, 116, 115, 95, 102, 105, 114, 115, 116]⟩ : Str)), ((⟨#[97, 108, 108, 95, 102, 105, 101, 108, 100, 115]⟩ : Str), (⟨#[83, 105, 103, 110, 97, 116, 117, 114, 101, 115, 46, 97, 108, 108, 95, 102, 105, 101, 108, 100, 115]⟩ : Str)), ((⟨#[108, 111, 111, 107, 95, 102, 105, 101, 108, 100, 115]⟩ : Str), (⟨#[83, 105, 103, 110, 97, 116, 117, 114, 101, 115, 46, 108, 111, 111, 107, 95, 102, 105, 101, 108, 100, 115]⟩ : Str)), ((⟨#[110, 97, 109, 101, 115]⟩ : Str), (⟨#[83, 105, 103, 110, 97, 116, 117, 114, 101, 115, 46, 110, 97, 109, 101, 115]⟩ : Str)), ((⟨#[112, 97, 114, 101, 110, 116]⟩ : Str), (⟨#[83, 105, 103, 110, 97, 116, 117, 114, 101, 115, 46, 112, 97, 114, 101, 110, 116]⟩ : Str)), ((⟨#[115, 117, 112, 101, 114, 115]⟩ : Str), (⟨#[83, 105, 103, 110, 97, 116, 117, 114, 101, 115, 46, 115, 117, 112, 101, 114, 115]⟩ : Str)), ((⟨#[105, 115, 95, 115, 117, 98, 115, 101, 116]⟩ : Str), (⟨#[83, 105, 103, 110, 97, 116, 117, 114, 101, 115, 46, 105, 115, 95, 115, 117, 98, 115, 101, 116]⟩ : Str)), ((⟨#[99, 104, 105, 108, 100, 114, 101, 110]⟩ : Str), (⟨#[83, 105, 103, 110, 97, 116, 117, 114, 101, 115, 46, 99, 104, 105, 108, 100, 114, 101, 110]⟩ : Str)), ((⟨#[97, 108, 108, 95, 97, 98, 111, 118, 101]⟩ : Str), (⟨#[83, 105, 103, 110, 97, 116, 117, 114, 101, 115, 46, 97, 108, 108, 95, 97, 98, 111, 118, 101]⟩ : Str)), ((⟨#[105, 115, 95, 97, 98, 115, 116, 114, 97, 99, 116]⟩ : Str), (⟨#[83, 105, 103, 110, 97, 116, 117, 114, 101, 115, 46, 105, 115, 95, 97, 98, 115, 116, 114, 97, 99, 116]⟩ : Str)), ((⟨#[109, 117, 108, 116]⟩ : Str), (⟨#[83, 105, 103, 110, 97, 116, 117, 114, 101, 115, 46, 109, 117, 108, 116]⟩ : Str)), ((⟨#[102, 105, 101, 108, 100, 115]⟩ : Str), (⟨#[83, 105, 103, 110, 97, 116, 117, 114, 101, 115, 46, 102, 105, 101, 108, 100, 115]⟩ : Str)), ((⟨#[102, 97, 99, 116, 115]⟩ : Str), (⟨#[83, 105, 103, 110, 97, 116, 117, 114, 101, 115, 46, 102, 97, 99, 116, 115]⟩ : Str))]
noncomputable def methO : List (Str × Str) := [((⟨#[116, 104, 105, 115, 95, 101, 110, 118]⟩ : Str), (⟨#[78, 97, 109, 101, 115, 46, 116, 104, 105, 115, 95, 101, 110, 118]⟩ : Str))]
noncomputable def attrS : List Str := [(⟨#[101, 110, 116, 114, 105, 101, 115]⟩ : Str), (⟨#[115, 116, 97, 110, 100, 115]⟩ : Str), (⟨#[111, 112, 101, 110, 101, 100]⟩ : Str), (⟨#[111, 114, 100, 101, 114, 101, 100]⟩ : Str), (⟨#[111, 119, 110, 95, 102, 105, 101, 108, 100, 115]⟩ : Str)]
noncomputable def attrO : List Str := [(⟨#[115, 105, 103, 110, 97, 116, 117, 114, 101, 115]⟩ : Str), (⟨#[107, 105, 110, 100, 115]⟩ : Str), (⟨#[105, 116, 101, 109, 115]⟩ : Str), (⟨#[110, 117, 109, 98, 101, 114, 115]⟩ : Str), (⟨#[99, 97, 108, 108, 115]⟩ : Str), (⟨#[99, 111, 117, 110, 116]⟩ : Str), (⟨#[115, 112, 101, 110, 116]⟩ : Str), (⟨#[104, 101, 105, 103, 104, 116]⟩ : Str), (⟨#[112, 101, 97, 107]⟩ : Str)]
noncomputable def setS (a : Str) : Bool := attrS.contains a
noncomputable def setO (a : Str) : Bool := attrO.contains a
noncomputable def tbX (p : Par) : Tb := ⟨p.cells, p.mix, fnNames, [((⟨#[84, 72, 73, 83]⟩ : Str), .tup [.str (⟨#[118, 97, 114]⟩ : Str), .str (⟨#[116, 104, 105, 115]⟩ : Str)])],
  fun C m => if C = p.CS then methS.lookup m else if C = p.CO then methO.lookup m else none,
  fun C a => if C = p.CS then attrS.contains a else if C = p.CO then attrO.contains a else false⟩
noncomputable def clN (p : Par) : Nat → Cl
  | 0 => fun _ _ _ => none
  | n + 1 => fun key args k => match fnsX.lookup key with
    | some f => (runFn (tbX p) f.sc f.params f.body args k).run (clN p n)
    | none => if key = (⟨#[83, 105, 103, 110, 97, 116, 117, 114, 101, 115]⟩ : Str) then (match args with
      | [items] => ((sigInit (tbX p) p.CS setS N_Signatures_init.1.sc N_Signatures_take_sig.1.sc (⟨#[105, 116, 101, 109, 115]⟩ : Str) (⟨#[105, 116, 101, 109]⟩ : Str) N_Signatures_take_sig.1.body items k (viewI N_Signatures_init.1.body)).run (clN p n)).map fun q => (.obj p.CS q.1, q.2)
      | _ => none)
      else if key = (⟨#[79, 112, 101, 110, 101, 114]⟩ : Str) then ((subInit (tbX p) p.CO setO N_Opener_init.1.sc N_Names_init.1.sc N_Opener_init.1.params.tail N_Names_init.1.params.tail N_Names_init.1.body args k (viewU N_Opener_init.1.body)).run (clN p n)).map fun q => (.obj p.CO q.1, q.2)
      else none
section
variable {p : Par} {n k : Nat} {args : List D}
theorem clN_fn {key : Str} {f : Fn} (h : fnsX.lookup key = some f) : clN p (n + 1) key args k = (runFn (tbX p) f.sc f.params f.body args k).run (clN p n) := by
  rw [clN]
  simp only [h]
theorem lk_eq {α : Type} {x : Str} {d : α} {r : List (Str × α)} : List.lookup x ((x, d) :: r) = some d := by simp
theorem lk_ne {α : Type} {x y : Str} {d : α} {r : List (Str × α)} (h : (x == y) = false) : List.lookup x ((y, d) :: r) = List.lookup x r := by
  rw [List.lookup_cons, h]
theorem lk_nil {α : Type} {x : Str} : List.lookup x ([] : List (Str × α)) = none := rfl
end
end Mine

-- B3
namespace Mine
section
variable {α β : Type} {cl : Cl}
theorem runB {m : M α} {f : α → M β} {a : α} {X : Option β} (h : m.run cl = some a) (t : (f a).run cl = X) : (m.bind f).run cl = X := by
  rw [M.run_bind, h]; exact t
/-- on past n nodes of the kind κ (0 test, 1 part, 2 opt, 3 ask), and past all of other kinds that are plain -/
noncomputable def M.go (κ : Nat) (m : M α) : Nat → M α := @M.rec α (fun _ => Nat → M α) (fun a _ => .ret a) (fun _ => .fail)
  (fun b c ih n => cond (κ.beq 3 && n.beq 0) (.ask b c) (cond b (ih (cond (κ.beq 3) n.pred n)) .fail))
  (fun b c d ic id n => cond (κ.beq 0 && n.beq 0) (.test b c d) (cond b (ic (cond (κ.beq 0) n.pred n)) (id (cond (κ.beq 0) n.pred n))))
  (fun o c ih n => cond (κ.beq 1 && n.beq 0) (.part o c) (o.elim .fail fun r => ih r (cond (κ.beq 1) n.pred n)))
  (fun o c ih n => cond (κ.beq 2 && n.beq 0) (.opt o c) (o.elim .fail fun r => ih r (cond (κ.beq 2) n.pred n)))
  (fun key ds k c _ _ => .call key ds k c) (fun o c _ _ => .sub o c) m
theorem go_run (κ : Nat) (m : M α) : ∀ n : Nat, (m.go κ n).run cl = m.run cl := by
  induction m with
  | ret a => exact fun _ => rfl
  | fail => exact fun _ => rfl
  | ask b c ih =>
    intro n
    show M.run cl (cond _ _ (cond b (c.go κ _) _)) = _
    cases κ.beq 3 && n.beq 0
    · cases b
      · rfl
      · exact ih _
    · rfl
  | test b c d ic id =>
    intro n
    show M.run cl (cond _ _ (cond b (c.go κ _) (d.go κ _))) = _
    cases κ.beq 0 && n.beq 0
    · cases b
      · exact id _
      · exact ic _
    · rfl
  | part o c ih =>
    intro n
    show M.run cl (cond _ _ (o.elim _ fun r => (c r).go κ _)) = _
    cases κ.beq 1 && n.beq 0
    · cases o with
      | none => rfl
      | some r => exact ih r _
    · rfl
  | opt o c ih =>
    intro n
    show M.run cl (cond _ _ (o.elim _ fun r => (c r).go κ _)) = _
    cases κ.beq 2 && n.beq 0
    · cases o with
      | none => rfl
      | some r => exact ih r _
    · rfl
  | call key ds k c _ => exact fun _ => rfl
  | sub o c _ => exact fun _ => rfl
noncomputable def M.isC : M α → Option (Str × List D × Nat)
  | .call key ds k _ => some (key, ds, k)
  | _ => none
noncomputable def M.nxC : M α → D × Nat → M α
  | .call _ _ _ c, r => c r
  | _, _ => .fail
noncomputable def M.isA : M α → Option Bool
  | .ask b _ => some b
  | _ => none
noncomputable def M.nxA : M α → M α
  | .ask _ c => c
  | _ => .fail
noncomputable def M.isT : M α → Option Bool
  | .test b _ _ => some b
  | _ => none
noncomputable def M.nxT : M α → Bool → M α
  | .test _ c d, v => cond v c d
  | _, _ => .fail
noncomputable def M.isP : M α → Option (Option D)
  | .part o _ => some o
  | _ => none
noncomputable def M.nxP : M α → D → M α
  | .part _ c, r => c r
  | _, _ => .fail
noncomputable def M.isO : M α → Option (Option D)
  | .opt o _ => some o
  | _ => none
noncomputable def M.nxO : M α → D → M α
  | .opt _ c, r => c r
  | _, _ => .fail
noncomputable def M.isS : M α → Option (Cl → Option (List D × Nat))
  | .sub o _ => some o
  | _ => none
noncomputable def M.nxS : M α → List D × Nat → M α
  | .sub _ c, r => c r
  | _, _ => .fail
noncomputable def M.isR : M α → Option α
  | .ret a => some a
  | _ => none
noncomputable def M.head (m : M α) := (m.go 4 0).isC
noncomputable def M.next (m : M α) (r : D × Nat) := (m.go 4 0).nxC r
noncomputable def M.asks (m : M α) (n : Nat) := (m.go 3 n).isA
noncomputable def M.okay (m : M α) (n : Nat) := (m.go 3 n).nxA
noncomputable def M.tst (m : M α) (n : Nat) := (m.go 0 n).isT
noncomputable def M.pick (m : M α) (n : Nat) (v : Bool) := (m.go 0 n).nxT v
noncomputable def M.prt (m : M α) (n : Nat) := (m.go 1 n).isP
noncomputable def M.take (m : M α) (n : Nat) (r : D) := (m.go 1 n).nxP r
noncomputable def M.opts (m : M α) (n : Nat) := (m.go 2 n).isO
noncomputable def M.got (m : M α) (n : Nat) (r : D) := (m.go 2 n).nxO r
noncomputable def M.subs (m : M α) := (m.go 4 0).isS
noncomputable def M.made (m : M α) (r : List D × Nat) := (m.go 4 0).nxS r
noncomputable def M.val (m : M α) := (m.go 4 0).isR
section
variable {X : Option α} {m : M α}
theorem stC {key : Str} {ds : List D} {k : Nat} {r : D × Nat} (h : cl key ds k = some r) (t : (m.next r).run cl = X) (hh : m.head = some (key, ds, k) := by kernel_rfl) : m.run cl = X := by
  rw [← go_run 4 m 0]
  unfold M.head at hh
  unfold M.next at t
  revert hh t
  cases m.go 4 0 <;> intro t hh <;> cases hh
  show (cl key ds k).bind _ = _
  rw [h]; exact t
theorem stAn {b : Bool} (h : b = true) (n : Nat) (t : (m.okay n).run cl = X) (hh : m.asks n = some b := by kernel_rfl) : m.run cl = X := by
  rw [← go_run 3 m n]
  unfold M.asks at hh
  unfold M.okay at t
  revert hh t
  cases m.go 3 n <;> intro t hh <;> cases hh
  subst h
  exact t
theorem stA {b : Bool} (h : b = true) (t : (m.okay 0).run cl = X) (hh : m.asks 0 = some b := by kernel_rfl) : m.run cl = X := stAn h 0 t hh
theorem stBn {b v : Bool} (h : b = v) (n : Nat) (t : (m.pick n v).run cl = X) (hh : m.tst n = some b := by kernel_rfl) : m.run cl = X := by
  rw [← go_run 0 m n]
  unfold M.tst at hh
  unfold M.pick at t
  revert hh t
  cases m.go 0 n <;> intro t hh <;> cases hh
  subst h
  cases b <;> exact t
theorem stB {b v : Bool} (h : b = v) (t : (m.pick 0 v).run cl = X) (hh : m.tst 0 = some b := by kernel_rfl) : m.run cl = X := stBn h 0 t hh
theorem stLn {o : Option D} {r : D} (h : o = some r) (n : Nat) (t : (m.take n r).run cl = X) (hh : m.prt n = some o := by kernel_rfl) : m.run cl = X := by
  rw [← go_run 1 m n]
  unfold M.prt at hh
  unfold M.take at t
  revert hh t
  cases m.go 1 n <;> intro t hh <;> cases hh
  subst h
  exact t
theorem stL {o : Option D} {r : D} (h : o = some r) (t : (m.take 0 r).run cl = X) (hh : m.prt 0 = some o := by kernel_rfl) : m.run cl = X := stLn h 0 t hh
theorem stOn {o : Option D} {r : D} (h : o = some r) (n : Nat) (t : (m.got n r).run cl = X) (hh : m.opts n = some o := by kernel_rfl) : m.run cl = X := by
  rw [← go_run 2 m n]
  unfold M.opts at hh
  unfold M.got at t
  revert hh t
  cases m.go 2 n <;> intro t hh <;> cases hh
  subst h
  exact t
theorem stO {o : Option D} {r : D} (h : o = some r) (t : (m.got 0 r).run cl = X) (hh : m.opts 0 = some o := by kernel_rfl) : m.run cl = X := stOn h 0 t hh
theorem stS {o : M (List D × Nat)} {r : List D × Nat} (h : o.run cl = some r) (t : (m.made r).run cl = X) (hh : m.subs = some fun cl => o.run cl := by kernel_rfl) : m.run cl = X := by
  rw [← go_run 4 m 0]
  unfold M.subs at hh
  unfold M.made at t
  revert hh t
  cases m.go 4 0 <;> intro t hh <;> cases hh
  show (o.run cl).bind _ = _
  rw [h]; exact t
theorem stR {a : α} (hh : m.val = some a := by kernel_rfl) : m.run cl = some a := by
  rw [← go_run 4 m 0]
  unfold M.val at hh
  revert hh
  cases m.go 4 0 <;> intro hh <;> cases hh
  rfl
end
end
theorem fnR {p : Par} {n k : Nat} {key : Str} (f : Fn) {args : List D} {X : Option (D × Nat)} (h : (runFn (tbX p) f.sc f.params f.body args k).run (clN p n) = X) (hf : fnsX.lookup key = some f := by kernel_rfl) : clN p (n + 1) key args k = X := (clN_fn hf).trans h
/-- a def's body, statement by statement -/
theorem fnB {p : Par} {n k : Nat} {key : Str} (f : Fn) {args : List D} (vs : Vars) {X : Option (D × Nat)} (h : ((evSs (evS (tbX p) f.sc 20) (f.body.drop 0) vs k).bind outM).run (clN p n) = X) (hf : fnsX.lookup key = some f := by kernel_rfl) (hv : frozenV f.params args = vs := by kernel_rfl) (hl : decide (f.params.length = args.length) = true := by kernel_rfl) : clN p (n + 1) key args k = X := by
  rw [clN_fn hf]
  unfold runFn
  rw [hl, hv]
  exact h
theorem at_nat {tb : Tb} {k : Nat} {l : List D} {i : Nat} (h : i < 4096) : subF tb k (.lst l) (.int (Int.ofNat i)) = l[i]? := by
  show (if (0 : Int) ≤ Int.ofNat i then (if Int.ofNat i < 4096 then l[(Int.ofNat i).toNat]? else none) else if Int.ofNat i = -1 then l.getLast? else none) = _
  rw [if_pos (show 0 ≤ Int.ofNat i from Int.natCast_nonneg i), if_pos (show Int.ofNat i < 4096 from Int.ofNat_lt.mpr h)]
  rfl
theorem isN {α : Type} {o : Option α} (h : o = none) : o.isNone = true := by rw [h]; rfl
theorem limN {a m : Nat} (h : a ≤ m) (hm : Nat.ble m 4096 = true) : decide (a ≤ lim) = true := decide_eq_true (Nat.le_trans h (Nat.le_of_ble_eq_true hm))
theorem limD {α : Type} {X : List α} {m : Nat} (h : X.length ≤ m) (hm : Nat.ble m 4096 = true) : decide (X.length ≤ lim) = true := decide_eq_true (Nat.le_trans h (Nat.le_of_ble_eq_true hm))
theorem str_cons {x : Str} (h : x ≠ (⟨#[]⟩ : Str)) : ∃ c cs, x = ⟨⟨c :: cs⟩⟩ := by
  obtain ⟨⟨l⟩⟩ := x
  cases l with
  | nil => exact absurd rfl h
  | cons c cs => exact ⟨c, cs, rfl⟩

/-! statements one by one -/
noncomputable def stAt (b : List Stmt) (i : Nat) : Stmt := b.getD i (.Pass ⟨0, 0, 0, 0⟩)
noncomputable def fT : Stmt → Expr
  | .For t _ _ _ _ => t
  | _ => .Name ⟨#[]⟩ ⟨0, 0, 0, 0⟩
noncomputable def fI : Stmt → Expr
  | .For _ i _ _ _ => i
  | _ => .Name ⟨#[]⟩ ⟨0, 0, 0, 0⟩
noncomputable def fB : Stmt → List Stmt
  | .For _ _ b _ _ => b
  | .While _ b _ _ => b
  | _ => []
section
variable {β : Type} {cl : Cl} {g : Stmt → EvS} {b : List Stmt} {i : Nat} {vs vs' : Vars} {k k' : Nat} {F : Fl × Vars × Nat → M β} {X : Option β}
theorem ssd (hi : Nat.blt i b.length = true) : evSs g (b.drop i) vs k = (g (stAt b i) vs k).bind (thnM (evSs g (b.drop (i + 1)))) := by
  have hi : i < b.length := Nat.blt_eq.mp hi
  have : stAt b i = b[i] := by unfold stAt; rw [List.getD_eq_getElem?_getD, List.getElem?_eq_getElem hi]; rfl
  rw [List.drop_eq_getElem_cons hi, this]; rfl
/-- the i-th statement goes on -/
theorem sq (h : (g (stAt b i) vs k).run cl = some (.nxt, vs', k')) (t : ((evSs g (b.drop (i + 1)) vs' k').bind F).run cl = X) (hi : Nat.blt i b.length = true := by kernel_rfl) : ((evSs g (b.drop i) vs k).bind F).run cl = X := by
  rw [ssd hi, M.run_bind, M.run_bind, h]
  rw [M.run_bind] at t
  exact t
theorem sqP {P : Option β → Prop} (h : (g (stAt b i) vs k).run cl = some (.nxt, vs', k')) (t : P (((evSs g (b.drop (i + 1)) vs' k').bind F).run cl)) (hi : Nat.blt i b.length = true := by kernel_rfl) : P (((evSs g (b.drop i) vs k).bind F).run cl) := by
  rw [sq h rfl hi]; exact t
/-- the i-th statement is a for -/
theorem sqF {tb : Tb} {sc : Kinds} {n : Nat} {l : List D} (hs : (evFSrc (evE tb 40 sc vs) sc k (fI (stAt b i))).run cl = some (l, k')) (hl : decide (l.length ≤ lim) = true)
    (h : ((evFor (evSs (evS tb sc n) (fB (stAt b i))) (bindT sc (fT (stAt b i))) l vs k').bind fun x => (thnM (evSs (evS tb sc (n + 1)) (b.drop (i + 1))) x).bind F).run cl = X)
    (hi : Nat.blt i b.length = true := by kernel_rfl) (hv : ∀ vs k, evS tb sc (n + 1) (stAt b i) vs k = (evFSrc (evE tb 40 sc vs) sc k (fI (stAt b i))).bind fun x => .ask (decide (x.1.length ≤ lim)) (evFor (evSs (evS tb sc n) (fB (stAt b i))) (bindT sc (fT (stAt b i))) x.1 vs x.2) := by intros; kernel_rfl) : ((evSs (evS tb sc (n + 1)) (b.drop i) vs k).bind F).run cl = X := by
  rw [ssd hi, hv, M.run_bind, M.run_bind, M.run_bind, hs]
  rw [M.run_bind] at h
  simp only [Option.bind_some]
  show ((cond (decide (l.length ≤ lim)) _ none).bind _).bind _ = _
  rw [hl, Option.bind_assoc]
  simp only [M.run_bind] at h
  exact h
theorem sqFP {P : Option β → Prop} {tb : Tb} {sc : Kinds} {n : Nat} {l : List D} (hs : (evFSrc (evE tb 40 sc vs) sc k (fI (stAt b i))).run cl = some (l, k')) (hl : decide (l.length ≤ lim) = true)
    (h : P (((evFor (evSs (evS tb sc n) (fB (stAt b i))) (bindT sc (fT (stAt b i))) l vs k').bind fun x => (thnM (evSs (evS tb sc (n + 1)) (b.drop (i + 1))) x).bind F).run cl))
    (hi : Nat.blt i b.length = true := by kernel_rfl) (hv : ∀ vs k, evS tb sc (n + 1) (stAt b i) vs k = (evFSrc (evE tb 40 sc vs) sc k (fI (stAt b i))).bind fun x => .ask (decide (x.1.length ≤ lim)) (evFor (evSs (evS tb sc n) (fB (stAt b i))) (bindT sc (fT (stAt b i))) x.1 vs x.2) := by intros; kernel_rfl) : P (((evSs (evS tb sc (n + 1)) (b.drop i) vs k).bind F).run cl) := by
  rw [sqF hs hl rfl hi hv]; exact h
end

/-- the i-th statement is a while -/
noncomputable def wT : Stmt → Expr
  | .While t _ _ _ => t
  | _ => .Name ⟨#[]⟩ ⟨0, 0, 0, 0⟩
theorem sqW {β : Type} {cl : Cl} {b : List Stmt} {i : Nat} {vs : Vars} {k : Nat} {F : Fl × Vars × Nat → M β} {X : Option β} {tb : Tb} {sc : Kinds} {n : Nat}
    (h : ((evWhile (fun vs k => evB (evE tb 40 sc vs) k (wT (stAt b i))) (evSs (evS tb sc n) (fB (stAt b i))) 64 vs k).bind fun x => (thnM (evSs (evS tb sc (n + 1)) (b.drop (i + 1))) x).bind F).run cl = X)
    (hi : Nat.blt i b.length = true := by kernel_rfl) (hv : ∀ vs k, evS tb sc (n + 1) (stAt b i) vs k = evWhile (fun vs k => evB (evE tb 40 sc vs) k (wT (stAt b i))) (evSs (evS tb sc n) (fB (stAt b i))) 64 vs k := by intros; kernel_rfl) : ((evSs (evS tb sc (n + 1)) (b.drop i) vs k).bind F).run cl = X := by
  rw [ssd hi, hv, M.run_bind, M.run_bind]
  rw [M.run_bind] at h
  simp only [M.run_bind] at h
  rw [Option.bind_assoc]
  exact h
theorem sqWP {β : Type} {cl : Cl} {b : List Stmt} {i : Nat} {vs : Vars} {k : Nat} {F : Fl × Vars × Nat → M β} {P : Option β → Prop} {tb : Tb} {sc : Kinds} {n : Nat}
    (h : P (((evWhile (fun vs k => evB (evE tb 40 sc vs) k (wT (stAt b i))) (evSs (evS tb sc n) (fB (stAt b i))) 64 vs k).bind fun x => (thnM (evSs (evS tb sc (n + 1)) (b.drop (i + 1))) x).bind F).run cl))
    (hi : Nat.blt i b.length = true := by kernel_rfl) (hv : ∀ vs k, evS tb sc (n + 1) (stAt b i) vs k = evWhile (fun vs k => evB (evE tb 40 sc vs) k (wT (stAt b i))) (evSs (evS tb sc n) (fB (stAt b i))) 64 vs k := by intros; kernel_rfl) : P (((evSs (evS tb sc (n + 1)) (b.drop i) vs k).bind F).run cl) := by
  rw [sqW rfl hi hv]; exact h
/-- a def's body, statement by statement -/
theorem fnP {p : Par} {n k : Nat} {key : Str} (f : Fn) {args : List D} (vs : Vars) {P : Option (D × Nat) → Prop} (h : P (((evSs (evS (tbX p) f.sc 20) (f.body.drop 0) vs k).bind outM).run (clN p n))) (hf : fnsX.lookup key = some f := by kernel_rfl) (hv : frozenV f.params args = vs := by kernel_rfl) (hl : decide (f.params.length = args.length) = true := by kernel_rfl) : P (clN p (n + 1) key args k) := by
  rw [fnB f vs rfl hf hv hl]; exact h
theorem evSs_app {cl : Cl} {g : Stmt → EvS} : ∀ (a b : List Stmt) {vs vs' : Vars} {k k' : Nat}, (evSs g a vs k).run cl = some (.nxt, vs', k') → (evSs g (a ++ b) vs k).run cl = (evSs g b vs' k').run cl
  | [], b, vs, vs', k, k', h => by cases h; rfl
  | st :: r, b, vs, vs', k, k', h => by
    have h : ((g st vs k).bind (thnM (evSs g r))).run cl = some (.nxt, vs', k') := h
    show ((g st vs k).bind (thnM (evSs g (r ++ b)))).run cl = _
    rw [M.run_bind] at h ⊢
    cases e : (g st vs k).run cl with
    | none => rw [e] at h; cases h
    | some x =>
      rw [e] at h
      obtain ⟨fl, v, k₁⟩ := x
      cases fl with
      | nxt => exact evSs_app r b h
      | cont => cases h
      | ret d => cases h
/-- j statements at once -/
theorem sqT {β : Type} {cl : Cl} {g : Stmt → EvS} {b : List Stmt} {i : Nat} {vs vs' : Vars} {k k' : Nat} {F : Fl × Vars × Nat → M β} {P : Option β → Prop} (j : Nat) (h : (evSs g ((b.drop i).take j) vs k).run cl = some (.nxt, vs', k')) (t : P (((evSs g (b.drop (i + j)) vs' k').bind F).run cl)) : P (((evSs g (b.drop i) vs k).bind F).run cl) := by
  rw [← List.take_append_drop j (b.drop i), List.drop_drop, M.run_bind, evSs_app _ _ h]
  rw [M.run_bind] at t
  exact t
theorem stE {α : Type} {cl : Cl} {m m' : M α} {X : Option α} (h : m'.run cl = X) (e : m = m' := by kernel_rfl) : m.run cl = X := e ▸ h
theorem runRet {α : Type} {cl : Cl} {m : M α} : (m.bind M.ret).run cl = m.run cl := by
  rw [M.run_bind]
  cases m.run cl <;> rfl
/-- a loop, and what comes behind -/
noncomputable abbrev loopM {β : Type} (B : EvS) (bind : D → Vars → M Vars) (l : List D) (vs : Vars) (k : Nat) (g : Stmt → EvS) (rest : List Stmt) (F : Fl × Vars × Nat → M β) : M β := (evFor B bind l vs k).bind fun x => (thnM (evSs g rest) x).bind F
/-- the i-th statement comes to a loop -/
theorem sqY {β : Type} {cl : Cl} {g : Stmt → EvS} {b : List Stmt} {i : Nat} {vs : Vars} (vs₁ : Vars) {k k' : Nat} {F : Fl × Vars × Nat → M β} {P : Option β → Prop} {B : EvS} {bind : D → Vars → M Vars} {l : List D}
    (e : (g (stAt b i) vs k).run cl = (evFor B bind l vs₁ k').run cl) (h : P ((loopM B bind l vs₁ k' g (b.drop (i + 1)) F).run cl)) (hi : Nat.blt i b.length = true := by kernel_rfl) : P (((evSs g (b.drop i) vs k).bind F).run cl) := by
  rw [ssd hi, M.run_bind, M.run_bind, e]
  rw [M.run_bind] at h
  simp only [M.run_bind] at h
  rw [Option.bind_assoc]
  exact h
theorem sqX {β : Type} {cl : Cl} {g : Stmt → EvS} {b : List Stmt} {i : Nat} {vs : Vars} {k k' : Nat} {F : Fl × Vars × Nat → M β} {P : Option β → Prop} {B : EvS} {bind : D → Vars → M Vars} {l : List D}
    (e : (g (stAt b i) vs k).run cl = (evFor B bind l vs k').run cl) (h : P ((loopM B bind l vs k' g (b.drop (i + 1)) F).run cl)) (hi : Nat.blt i b.length = true := by kernel_rfl) : P (((evSs g (b.drop i) vs k).bind F).run cl) := sqY vs e h hi
theorem runE {α : Type} {cl : Cl} {m : M (α × Nat)} {a b : α} {k : Nat} (e : a = b) (h : m.run cl = some (a, k)) : m.run cl = some (b, k) := e ▸ h
/-! the parts of statements and expressions -/
noncomputable def iB : Stmt → List Stmt
  | .If _ b _ _ => b
  | _ => []
noncomputable def rE : Stmt → Expr
  | .Return (some e) _ => e
  | .Assign _ e _ => e
  | .If t _ _ _ => t
  | _ => .Name ⟨#[]⟩ ⟨0, 0, 0, 0⟩
/-- the one argument of the last call within -/
noncomputable def argE : Expr → Expr
  | .Call _ (a :: _) _ _ => a
  | e => e
/-- the first of a tuple -/
noncomputable def tuE : Expr → Expr
  | .Tuple (a :: _) _ _ => a
  | e => e
noncomputable def lE : Expr → Expr
  | .Compare l _ _ _ => l
  | e => e
noncomputable def aE : Expr → Expr
  | .Compare _ _ r _ => r.headD (.Name ⟨#[]⟩ ⟨0, 0, 0, 0⟩)
  | e => e
noncomputable def cpOf : Expr → Expr × List Comprehension × Kinds
  | .ListComp elt gens scope _ => (elt, gens, scope.names)
  | e => (e, [], [])
noncomputable def cpIfs (e : Expr) : List Expr := match (cpOf e).2.1 with
  | g :: _ => g.ifs
  | [] => []
noncomputable def cpX (e : Expr) : Str := match (cpOf e).2.1 with
  | g :: _ => (nameOf g.target).getD ⟨#[]⟩
  | [] => ⟨#[]⟩
/-- the comprehension e upon the items l -/
noncomputable def compOf (tb : Tb) (n : Nat) (sc : Kinds) (vs : Vars) (k : Nat) (e : Expr) (l : List D) : M (List D × Nat) :=
  compM (evIfs (evE tb n (relab sc (cpOf e).2.2)) (cpIfs e)) (evE tb n (relab sc (cpOf e).2.2)) (cpX e) vs (cpOf e).1 k l

/-! loops -/
section
variable {α β σ : Type} {cl : Cl} {k : Nat} {vs : Vars} {b : EvS} {bind : D → Vars → M Vars} {t : Vars → Nat → M (Bool × Nat)} {F : Fl × Vars × Nat → M β} {P : Option β → Prop}
/-- a body that goes on, into I -/
noncomputable def OkP (I : Vars → Nat → Prop) (o : Option (Fl × Vars × Nat)) : Prop := ∃ fl v k', o = some (fl, v, k') ∧ (fl = .nxt ∨ fl = .cont) ∧ I v k'
noncomputable abbrev OkS (cl : Cl) (I : Vars → Nat → Prop) (m : M (Fl × Vars × Nat)) : Prop := OkP I (m.run cl)
/-- a turn, statement by statement -/
theorem turnB {g : Stmt → EvS} {B : List Stmt} {d : D} (v : Vars) {P : Option (Fl × Vars × Nat) → Prop} (h : P (((evSs g (B.drop 0) v k).bind M.ret).run cl)) (hb : bind d vs = .ret v := by kernel_rfl) : P (((bind d vs).bind fun v => evSs g B v k).run cl) := by
  rw [hb]
  rw [M.run_bind] at h
  have e : ∀ o : Option (Fl × Vars × Nat), (o.bind fun a => (M.ret a).run cl) = o := fun o => by cases o <;> rfl
  rw [e] at h
  exact h
theorem forD {d : D} {r : List D} : ((evFor b bind (d :: r) vs k).bind F).run cl = ((((bind d vs).bind fun v => b v k).run cl).bind fun x => (forT (evFor b bind r) x).run cl).bind fun x => (F x).run cl := by
  show ((((bind d vs).bind fun v => (b v k).bind (forT (evFor b bind r)))).bind F).run cl = _
  simp only [M.run_bind, Option.bind_assoc]
theorem forC {d : D} {r : List D} {vs' : Vars} {k' : Nat} (h : ((bind d vs).bind fun v => b v k).run cl = some (.nxt, vs', k')) (t : P (((evFor b bind r vs' k').bind F).run cl)) : P (((evFor b bind (d :: r) vs k).bind F).run cl) := by
  rw [forD, h]
  rw [M.run_bind] at t
  exact t
/-- on from a loop by its invariant -/
theorem for_then (I : List D → Vars → Nat → Prop) (H : ∀ d r vs k, I (d :: r) vs k → OkS cl (I r) ((bind d vs).bind fun v => b v k)) (hF : ∀ v k, I [] v k → P ((F (.nxt, v, k)).run cl)) : ∀ {l : List D} {vs : Vars} {k : Nat}, I l vs k → P (((evFor b bind l vs k).bind F).run cl)
  | [], vs, k, h => hF vs k h
  | d :: r, vs, k, h => by
    obtain ⟨fl, v, k', h1, h2, h3⟩ := H d r vs k h
    have := for_then I H hF h3
    rw [M.run_bind] at this
    rw [forD, h1]
    rcases h2 with rfl | rfl <;> exact this
theorem for_each (I : Vars → Nat → Prop) {l : List D} (h0 : I vs k) (H : ∀ d ∈ l, ∀ vs k, I vs k → OkS cl I ((bind d vs).bind fun v => b v k)) (hF : ∀ v k, I v k → P ((F (.nxt, v, k)).run cl)) : P (((evFor b bind l vs k).bind F).run cl) :=
  for_then (fun r vs k => (∀ d ∈ r, d ∈ l) ∧ I vs k) (fun d r vs k h => by
    obtain ⟨fl, v, k', h1, h2, h3⟩ := H d (h.1 d List.mem_cons_self) vs k h.2
    exact ⟨fl, v, k', h1, h2, fun d hd => h.1 d (List.mem_cons_of_mem _ hd), h3⟩) (fun v k h => hF v k h.2) ⟨fun _ h => h, h0⟩
/-- a loop that may return -/
noncomputable def foldR (st : σ → α → D ⊕ σ) : List α → σ → D ⊕ σ
  | [], s => .inr s
  | a :: r, s => match st s a with
    | .inl d => .inl d
    | .inr s' => foldR st r s'
noncomputable def Went (cl : Cl) (I : σ → Vars → Nat → Prop) (k₀ : Nat) (m : M (Fl × Vars × Nat)) : D ⊕ σ → Prop
  | .inl d => ∃ vs', m.run cl = some (.ret d, vs', k₀)
  | .inr s => OkS cl (I s) m
theorem for_fold (g : α → D) (I : σ → Vars → Nat → Prop) (st : σ → α → D ⊕ σ) (k₀ : Nat) (H : ∀ s a vs k, I s vs k → Went cl I k₀ ((bind (g a) vs).bind fun v => b v k) (st s a)) : ∀ {xs : List α} {s : σ} {vs : Vars} {k : Nat}, I s vs k →
    (∀ d vs, foldR st xs s = .inl d → P ((F (.ret d, vs, k₀)).run cl)) → (∀ s' vs k, foldR st xs s = .inr s' → I s' vs k → P ((F (.nxt, vs, k)).run cl)) → P (((evFor b bind (xs.map g) vs k).bind F).run cl)
  | [], s, vs, k, h0, h1, h2 => h2 s vs k rfl h0
  | a :: r, s, vs, k, h0, h1, h2 => by
    have h := H s a vs k h0
    rw [List.map_cons, forD]
    unfold foldR at h1 h2
    cases q : st s a with
    | inl d =>
      rw [q] at h h1
      obtain ⟨vs', h⟩ := h
      rw [h]
      exact h1 d vs' rfl
    | inr s' =>
      rw [q] at h
      rw [q] at h1 h2
      obtain ⟨fl, v, k', h3, h4, h5⟩ := h
      rw [h3]
      have := for_fold g I st k₀ H (xs := r) h5 h1 h2
      rw [M.run_bind] at this
      rcases h4 with rfl | rfl <;> exact this
/-- the same, over members alone, with no return -/
theorem for_foldM (g : α → D) (I : σ → Vars → Nat → Prop) (st : σ → α → σ) : ∀ {xs : List α} {s : σ} {vs : Vars} {k : Nat}, (∀ s, ∀ a ∈ xs, ∀ vs k, I s vs k → OkS cl (I (st s a)) ((bind (g a) vs).bind fun v => b v k)) → I s vs k →
    (∀ vs k, I (xs.foldl st s) vs k → P ((F (.nxt, vs, k)).run cl)) → P (((evFor b bind (xs.map g) vs k).bind F).run cl)
  | [], s, vs, k, H, h0, h2 => h2 vs k h0
  | a :: r, s, vs, k, H, h0, h2 => by
    obtain ⟨fl, v, k', h3, h4, h5⟩ := H s a List.mem_cons_self vs k h0
    rw [List.map_cons, forD, h3]
    have := for_foldM g I st (xs := r) (fun s a ha => H s a (List.mem_cons_of_mem _ ha)) h5 h2
    rw [M.run_bind] at this
    rcases h4 with rfl | rfl <;> exact this
/-- a loop told natively: none where it fails, some none where it ends -/
noncomputable def iter (step : σ → Option (Option σ)) : Nat → σ → Option σ
  | 0, _ => none
  | m + 1, s => match step s with
    | none => none
    | some none => some s
    | some (some s') => iter step m s'
/-- what one turn of a while does -/
noncomputable def Turn (cl : Cl) (I : σ → Vars → Nat → Prop) (t : Vars → Nat → M (Bool × Nat)) (b : EvS) (vs : Vars) (k : Nat) : Option (Option σ) → Prop
  | none => True
  | some none => (t vs k).run cl = some (false, k)
  | some (some s') => ∃ k', (t vs k).run cl = some (true, k') ∧ OkS cl (I s') (b vs k')
theorem whD {m : Nat} {c : Bool × Nat} (h : (t vs k).run cl = some c) : ((evWhile t b (m + 1) vs k).bind F).run cl = (cond c.1 (((b vs c.2).run cl).bind fun x => (forT (evWhile t b m) x).run cl) (some (.nxt, vs, c.2))).bind fun x => (F x).run cl := by
  show (((t vs k).bind fun c => .test c.1 ((b vs c.2).bind (forT (evWhile t b m))) (.ret (.nxt, vs, c.2))).bind F).run cl = _
  rw [M.run_bind, M.run_bind, h]
  simp only [Option.bind_some]
  cases c.1
  · rfl
  · show (((b vs c.2).bind (forT (evWhile t b m))).run cl).bind _ = _
    rw [M.run_bind]
    rfl
theorem wh_then (I : σ → Vars → Nat → Prop) (step : σ → Option (Option σ)) (H : ∀ s vs k, I s vs k → Turn cl I t b vs k (step s)) {s' : σ} (hF : ∀ v k, I s' v k → P ((F (.nxt, v, k)).run cl)) : ∀ {m N : Nat} {s : σ} {vs : Vars} {k : Nat}, iter step m s = some s' → m ≤ N → I s vs k → P (((evWhile t b N vs k).bind F).run cl)
  | 0, _, _, _, _, h, _, _ => by cases h
  | m + 1, 0, _, _, _, h, q, _ => absurd q (Nat.not_succ_le_zero m)
  | m + 1, N + 1, s, vs, k, h, q, i => by
    have h1 := H s vs k i
    unfold iter at h
    cases e : step s with
    | none => rw [e] at h; cases h
    | some o =>
      rw [e] at h h1
      cases o with
      | none =>
        cases h
        rw [whD (show (t vs k).run cl = some (false, k) from h1)]
        exact hF vs k i
      | some s₁ =>
        obtain ⟨k₁, h1, fl, v, k', h2, h3, h4⟩ := h1
        have := wh_then I step H hF h (Nat.le_of_succ_le_succ q) h4
        rw [M.run_bind] at this
        rw [whD h1]
        show P ((((b vs k₁).run cl).bind _).bind _)
        rw [h2]
        rcases h3 with rfl | rfl <;> exact this
/-- a while whose measure is told -/
theorem wh_len (I : Nat → Vars → Nat → Prop) (H0 : ∀ vs k, I 0 vs k → (t vs k).run cl = some (false, k)) (HS : ∀ m vs k, I (m + 1) vs k → ∃ k', (t vs k).run cl = some (true, k') ∧ OkS cl (I m) (b vs k')) (hF : ∀ v k, I 0 v k → P ((F (.nxt, v, k)).run cl)) {m N : Nat} {vs : Vars} {k : Nat} (h : m < N) (i : I m vs k) : P (((evWhile t b N vs k).bind F).run cl) :=
  wh_then I (fun m => match m with | 0 => some none | m + 1 => some (some m)) (fun s vs k i => by
    cases s with
    | zero => exact H0 vs k i
    | succ m => exact HS m vs k i) (s' := 0) hF (m := m + 1) (by
    clear h i
    induction m with
    | zero => rfl
    | succ m ih => exact ih) h i
/-- a comprehension whose test and item are told -/
theorem cmpG {ts : Vars → Nat → M (Bool × Nat)} {f : Vars → EvM} {x : Str} {e : Expr} (g : α → D) (T : α → Bool) (R : α → D) : ∀ {xs : List α}, (∀ o ∈ xs, (ts ((x, false, g o) :: vs) k).run cl = some (T o, k) ∧ (T o = true → ∃ ow, (f ((x, false, g o) :: vs) k e).run cl = some (ow, R o, k))) → (compM ts f x vs e k (xs.map g)).run cl = some ((xs.filter T).map R, k)
  | [], _ => rfl
  | o :: r, h => by
    have h1 := h o List.mem_cons_self
    have ih := cmpG g T R (xs := r) fun d hd => h d (List.mem_cons_of_mem _ hd)
    refine runB h1.1 ?_
    cases q : T o with
    | true =>
      obtain ⟨ow, h2⟩ := h1.2 q
      rw [List.filter_cons, if_pos q]
      exact runB h2 (runB ih rfl)
    | false =>
      rw [List.filter_cons, if_neg (by rw [q]; decide)]
      exact ih
theorem cmpO {tb : Tb} {n : Nat} {sc : Kinds} {e : Expr} (g : α → D) (T : α → Bool) (R : α → D) {xs : List α} (h : ∀ o ∈ xs, (evIfs (evE tb n (relab sc (cpOf e).2.2)) (cpIfs e) ((cpX e, false, g o) :: vs) k).run cl = some (T o, k) ∧ (T o = true → ∃ ow, (evE tb n (relab sc (cpOf e).2.2) ((cpX e, false, g o) :: vs) k (cpOf e).1).run cl = some (ow, R o, k))) : (compOf tb n sc vs k e (xs.map g)).run cl = some ((xs.filter T).map R, k) := cmpG g T R h
theorem asMap : ∀ (xs : List Str), allStr (xs.map .str) = some xs
  | [] => rfl
  | x :: r => by
    show (allStr (r.map .str)).map (x :: ·) = _
    rw [asMap r]; rfl
theorem eqNilG (f : α → D) (xs : List α) : (cmpD .Eq (.lst (xs.map f)) (.lst [])).map D.bool = some (.bool xs.isEmpty) := by cases xs <;> rfl
theorem eqNil (xs : List Str) : (cmpD .Eq (.lst (xs.map .str)) (.lst [])).map D.bool = some (.bool xs.isEmpty) := eqNilG _ xs
theorem neNilG (f : α → D) (xs : List α) : (cmpD .NotEq (.lst (xs.map f)) (.lst [])).map D.bool = some (.bool (!xs.isEmpty)) := by cases xs <;> rfl
theorem neNil (xs : List Str) : (cmpD .NotEq (.lst (xs.map .str)) (.lst [])).map D.bool = some (.bool (!xs.isEmpty)) := neNilG _ xs
theorem notIn (o : Str) (f : List Str) : (cmpD .NotIn (.str o) (.lst (f.map .str))).map D.bool = some (.bool (!(f.any (· == o)))) := by
  show (((allStr (f.map .str)).map fun ys => ys.any (· == o)).map (!·)).map D.bool = _
  rw [asMap]; rfl
theorem remE {xs : List Str} {t : Str} (h : t ∈ xs) : remD (xs.map .str) (.str t) = some (.lst ((xs.erase t).map .str)) := by
  unfold remD
  rw [asMap]
  exact if_pos (List.contains_iff_mem.mpr h)
end
end Mine

-- C1
namespace Mine
section
variable {p : Par} {n k : Nat}
noncomputable def manyI (m : Int) : Int := Builtin.bitAnd m 1 + Builtin.bitAnd (m.fdiv (2 ^ (1 : Int).toNat)) 1 + m.fdiv (2 ^ (2 : Int).toNat)
theorem c_many {m : Int} : clN p (n + 1) (⟨#[95, 108, 97, 119, 95, 109, 97, 110, 121]⟩ : Str) [.int m] k = some (.int (manyI m), k) := fnR N_law_many.1 stR
noncomputable def isSoB (s : Str) (m : Int) : Bool := if (s == (⟨#[110, 111]⟩ : Str)) = true then manyI m == 0 else s == (⟨#[]⟩ : Str) || (s == (⟨#[115, 111, 109, 101]⟩ : Str) && decide (0 < manyI m) || (s == (⟨#[111, 110, 101]⟩ : Str) && manyI m == 1 || s == (⟨#[108, 111, 110, 101]⟩ : Str) && decide (manyI m < 2)))
theorem c_is_so {m : Int} {s : Str} : clN p (n + 2) (⟨#[95, 108, 97, 119, 95, 105, 115, 95, 115, 111]⟩ : Str) [.str s, .int m] k = some (.bool (isSoB s m), k) := by
  refine fnR N_law_is_so.1 (stC (c_many (m := m) (k := k)) ?_)
  unfold isSoB
  cases h : s == (⟨#[110, 111]⟩ : Str)
  · rw [if_neg (by decide)]
    refine stB h ?_
    cases h1 : s == (⟨#[]⟩ : Str)
    · refine stB h1 ?_
      cases h2 : s == (⟨#[115, 111, 109, 101]⟩ : Str) <;> refine stB h2 ?_
      · cases h3 : s == (⟨#[111, 110, 101]⟩ : Str) <;> refine stBn h3 1 ?_
        · cases h4 : s == (⟨#[108, 111, 110, 101]⟩ : Str) <;> exact stBn h4 1 stR
        · cases h5 : manyI m == 1 <;> refine stB h5 ?_
          · cases h4 : s == (⟨#[108, 111, 110, 101]⟩ : Str) <;> exact stB h4 stR
          · exact stR
      · cases h6 : decide (0 < manyI m) <;> refine stB h6 ?_
        · cases h3 : s == (⟨#[111, 110, 101]⟩ : Str) <;> refine stB h3 ?_
          · cases h4 : s == (⟨#[108, 111, 110, 101]⟩ : Str) <;> exact stBn h4 1 stR
          · cases h5 : manyI m == 1 <;> refine stB h5 ?_
            · cases h4 : s == (⟨#[108, 111, 110, 101]⟩ : Str) <;> exact stB h4 stR
            · exact stR
        · exact stR
    · exact stB h1 stR
  · rw [if_pos rfl]
    exact stB h stR
/-- a signature's item -/
structure Row where
  par : Str
  parts : List Str
  whole : Bool
  mark : Str
noncomputable def itD (ns : D) (r : Row) : D := .tup [.str (⟨#[115, 105, 103]⟩ : Str), .int 0, ns, .bool r.whole, .str r.mark, .str r.par, .tup (r.parts.map .str), .tup [], .tup []]
/-- what Signatures' own dict holds -/
structure SgOk (l : List (Str × D)) (E : List (Str × D)) : Prop where
  ent : l.lookup (⟨#[101, 110, 116, 114, 105, 101, 115]⟩ : Str) = some (.dct E)
  nom : ∀ m, (methS.lookup m).isSome = true → (l.lookup m).isNone = true
section
variable {l E : List (Str × D)} {ns : D} {r : Row} {nm : Str}
theorem lim4 (hp : r.parts.length ≤ 4) : decide ((r.parts.map D.str).length ≤ lim) = true := limD (m := 4) (by rw [List.length_map]; exact hp) rfl
theorem c_parent (hl : SgOk l E) (hE : subF (tbX p) k (.dct E) (.str nm) = some (itD ns r)) : clN p (n + 1) (⟨#[83, 105, 103, 110, 97, 116, 117, 114, 101, 115, 46, 112, 97, 114, 101, 110, 116]⟩ : Str) [.obj p.CS l, .str nm] k = some (.str r.par, k) := fnR N_Signatures_parent.1 (stL hl.ent (stL hE stR))
theorem c_mult (hl : SgOk l E) (hE : subF (tbX p) k (.dct E) (.str nm) = some (itD ns r)) : clN p (n + 1) (⟨#[83, 105, 103, 110, 97, 116, 117, 114, 101, 115, 46, 109, 117, 108, 116]⟩ : Str) [.obj p.CS l, .str nm] k = some (.str r.mark, k) := fnR N_Signatures_mult.1 (stL hl.ent (stL hE stR))
theorem c_is_abstract (hl : SgOk l E) (hE : subF (tbX p) k (.dct E) (.str nm) = some (itD ns r)) : clN p (n + 1) (⟨#[83, 105, 103, 110, 97, 116, 117, 114, 101, 115, 46, 105, 115, 95, 97, 98, 115, 116, 114, 97, 99, 116]⟩ : Str) [.obj p.CS l, .str nm] k = some (.bool r.whole, k) := fnR N_Signatures_is_abstract.1 (stL hl.ent (stL hE stR))
theorem c_supers (hl : SgOk l E) (hE : subF (tbX p) k (.dct E) (.str nm) = some (itD ns r)) (hp : r.parts.length ≤ 4) : clN p (n + 1) (⟨#[83, 105, 103, 110, 97, 116, 117, 114, 101, 115, 46, 115, 117, 112, 101, 114, 115]⟩ : Str) [.obj p.CS l, .str nm] k = some (.tup (r.parts.map .str), k) := fnR N_Signatures_supers.1 (stL hl.ent (stL hE (stA (lim4 hp) stR)))
theorem c_is_subset (hl : SgOk l E) (hE : subF (tbX p) k (.dct E) (.str nm) = some (itD ns r)) (hp : r.parts.length ≤ 4) : clN p (n + 1) (⟨#[83, 105, 103, 110, 97, 116, 117, 114, 101, 115, 46, 105, 115, 95, 115, 117, 98, 115, 101, 116]⟩ : Str) [.obj p.CS l, .str nm] k = some (.bool (decide ((0 : Int) < (r.parts.map D.str).length)), k) := fnR N_Signatures_is_subset.1 (stL hl.ent (stL hE (stA (lim4 hp) stR)))
theorem c_facts (hl : SgOk l E) (hE : subF (tbX p) k (.dct E) (.str nm) = some (itD ns r)) : clN p (n + 1) (⟨#[83, 105, 103, 110, 97, 116, 117, 114, 101, 115, 46, 102, 97, 99, 116, 115]⟩ : Str) [.obj p.CS l, .str nm] k = some (.tup [], k) := fnR N_Signatures_facts.1 (stL hl.ent (stL hE stR))
noncomputable def dirOf (r : Row) : List Str := (if r.par = (⟨#[]⟩ : Str) then [] else [r.par]) ++ r.parts
theorem dirOf_len (hp : r.parts.length ≤ 4) : (dirOf r).length ≤ 5 := by
  unfold dirOf
  rw [List.length_append, Nat.add_comm]
  refine Nat.add_le_add (b := 4) (d := 1) hp ?_
  split
  · exact Nat.zero_le _
  · exact Nat.le_refl _
theorem c_direct (hl : SgOk l E) (hE : subF (tbX p) k (.dct E) (.str nm) = some (itD ns r)) (hp : r.parts.length ≤ 4) : clN p (n + 2) (⟨#[83, 105, 103, 110, 97, 116, 117, 114, 101, 115, 46, 100, 105, 114, 101, 99, 116]⟩ : Str) [.obj p.CS l, .str nm] k = some (.tup ((dirOf r).map .str), k) := by
  have h0 := hl.nom (⟨#[112, 97, 114, 101, 110, 116]⟩ : Str) (by kernel_rfl)
  have h1 := hl.nom (⟨#[115, 117, 112, 101, 114, 115]⟩ : Str) (by kernel_rfl)
  have cp := c_parent (n := n) hl hE
  have cs := c_supers (n := n) hl hE hp
  unfold dirOf
  by_cases q : r.par = (⟨#[]⟩ : Str)
  · rw [if_pos q]
    have q' : (!(r.par == (⟨#[]⟩ : Str))) = false := by rw [q]; rfl
    exact fnR N_Signatures_direct.1 (stA h0 (stC cp (stB q' (stA h1 (stC cs (stA (limN (a := 0 + (r.parts.map D.str).length) (m := 4) (by rw [Nat.zero_add, List.length_map]; exact hp) rfl) stR))))))
  · rw [if_neg q]
    have q' : (!(r.par == (⟨#[]⟩ : Str))) = true := by simpa using q
    exact fnR N_Signatures_direct.1 (stA h0 (stC cp (stB q' (stA h0 (stC cp (stA h1 (stC cs (stA (limN (a := 1 + (r.parts.map D.str).length) (m := 5) (by rw [List.length_map, Nat.add_comm]; exact Nat.add_le_add_right hp 1) rfl) stR))))))))
end
end
end Mine

-- C2
namespace Mine
section
variable {p : Par} {n k : Nat} {l E : List (Str × D)}
structure EntOk (names : List Str) (E : List (Str × D)) (R : Str → Row) : Prop where
  e : ∀ nm ∈ names, ∃ ns, E.lookup nm = some (itD ns (R nm)) ∧ (R nm).parts.length ≤ 4
  cl : ∀ nm ∈ names, ∀ o ∈ dirOf (R nm), o ∈ names
  sub : ∀ nm ∈ names, (R nm).par ≠ (⟨#[]⟩ : Str) → (R (R nm).par).parts = []
variable {names : List Str} {R : Str → Row}
theorem C_parent (hl : SgOk l E) (H : EntOk names E R) {nm : Str} (h : nm ∈ names) : clN p (n + 1) (⟨#[83, 105, 103, 110, 97, 116, 117, 114, 101, 115, 46, 112, 97, 114, 101, 110, 116]⟩ : Str) [.obj p.CS l, .str nm] k = some (.str (R nm).par, k) := by
  obtain ⟨ns, e, _⟩ := H.e nm h; exact c_parent hl e
theorem C_direct (hl : SgOk l E) (H : EntOk names E R) {nm : Str} (h : nm ∈ names) : clN p (n + 2) (⟨#[83, 105, 103, 110, 97, 116, 117, 114, 101, 115, 46, 100, 105, 114, 101, 99, 116]⟩ : Str) [.obj p.CS l, .str nm] k = some (.tup ((dirOf (R nm)).map .str), k) := by
  obtain ⟨ns, e, q⟩ := H.e nm h; exact c_direct hl e q
theorem C_is_subset (hl : SgOk l E) (H : EntOk names E R) {nm : Str} (h : nm ∈ names) : clN p (n + 1) (⟨#[83, 105, 103, 110, 97, 116, 117, 114, 101, 115, 46, 105, 115, 95, 115, 117, 98, 115, 101, 116]⟩ : Str) [.obj p.CS l, .str nm] k = some (.bool (decide ((0 : Int) < ((R nm).parts.map D.str).length)), k) := by
  obtain ⟨ns, e, q⟩ := H.e nm h; exact c_is_subset hl e q
theorem mem_par {r : Row} (h : r.par ≠ (⟨#[]⟩ : Str)) : r.par ∈ dirOf r := by
  unfold dirOf; rw [if_neg h]; exact List.mem_cons_self
theorem dir_lim (H : EntOk names E R) {nm : Str} (h : nm ∈ names) : decide (((dirOf (R nm)).map D.str).length ≤ lim) = true := by
  obtain ⟨ns, e, q⟩ := H.e nm h
  exact limD (m := 5) (by rw [List.length_map]; exact dirOf_len q) rfl
theorem c_look_above (hl : SgOk l E) (H : EntOk names E R) {nm : Str} (h : nm ∈ names) : clN p (n + 3) (⟨#[83, 105, 103, 110, 97, 116, 117, 114, 101, 115, 46, 108, 111, 111, 107, 95, 97, 98, 111, 118, 101]⟩ : Str) [.obj p.CS l, .str nm] k = some (.none, k) := by
  have h0 := hl.nom (⟨#[100, 105, 114, 101, 99, 116]⟩ : Str) (by kernel_rfl)
  have h1 := hl.nom (⟨#[112, 97, 114, 101, 110, 116]⟩ : Str) (by kernel_rfl)
  have h2 := hl.nom (⟨#[105, 115, 95, 115, 117, 98, 115, 101, 116]⟩ : Str) (by kernel_rfl)
  have hc := C_direct (p := p) (n := n) (k := k) hl H h
  have hp := C_parent (p := p) (n := n + 1) (k := k) hl H h
  refine fnB N_Signatures_look_above.1 [((⟨#[115, 101, 108, 102]⟩ : Str), false, .obj p.CS l), ((⟨#[110, 97, 109, 101]⟩ : Str), false, .str nm)] (sqF (k' := k) (stA h0 (stC hc stR)) (dir_lim H h) ?_)
  refine for_each (fun vs k' => k' = k ∧ ∃ X, vs = ((⟨#[115, 101, 108, 102]⟩ : Str), false, .obj p.CS l) :: ((⟨#[110, 97, 109, 101]⟩ : Str), false, .str nm) :: X ∧ (X = [] ∨ ∃ d, X = [((⟨#[111, 116, 104, 101, 114]⟩ : Str), false, d)])) (P := fun o => o = _) ⟨rfl, [], rfl, .inl rfl⟩ ?_ ?_
  · rintro d hd vs k' ⟨rfl, X, rfl, hX⟩
    obtain ⟨o, ho, rfl⟩ := List.mem_map.mp hd
    obtain ⟨ns, e, _⟩ := H.e o (H.cl nm h o ho)
    have q : (!(E.lookup o).isSome) = false := by rw [e]; rfl
    refine ⟨.nxt, [((⟨#[115, 101, 108, 102]⟩ : Str), false, .obj p.CS l), ((⟨#[110, 97, 109, 101]⟩ : Str), false, .str nm), ((⟨#[111, 116, 104, 101, 114]⟩ : Str), false, .str o)], k', ?_, .inl rfl, rfl, _, rfl, .inr ⟨.str o, rfl⟩⟩
    rcases hX with rfl | ⟨d, rfl⟩ <;> exact stL hl.ent (stB q stR)
  · rintro vs k' ⟨rfl, X, rfl, hX⟩
    by_cases q : (R nm).par = (⟨#[]⟩ : Str)
    · have q' : (!((R nm).par == (⟨#[]⟩ : Str))) = false := by rw [q]; rfl
      rcases hX with rfl | ⟨d, rfl⟩ <;> exact stA h1 (stC hp (stB q' stR))
    · have q' : (!((R nm).par == (⟨#[]⟩ : Str))) = true := by simpa using q
      have hs := C_is_subset (p := p) (n := n + 1) (k := k') hl H (H.cl nm h _ (mem_par q))
      rw [H.sub nm h q] at hs
      rcases hX with rfl | ⟨d, rfl⟩ <;> exact stA h1 (stC hp (stB q' (stA h2 (stA h1 (stC hp (stC hs stR))))))
end
end Mine

-- C3
namespace Mine
section
variable {p : Par} {n k : Nat} {l E : List (Str × D)} {names : List Str} {R : Str → Row}
noncomputable def kids (R : Str → Row) (st : List Str) (nm : Str) : List Str := st.filter fun o => (R o).par == nm
theorem lim20 {α : Type} {f : α → D} {st : List α} (h : st.length ≤ 20) : decide ((st.map f).length ≤ lim) = true := limD (m := 20) (by rw [List.length_map]; exact h) rfl
theorem limS {st : List Str} (h : st.length ≤ 20) : decide ((st.map D.str).length ≤ lim) = true := lim20 h
theorem c_children (hl : SgOk l E) (H : EntOk names E R) {st : List Str} (hs : l.lookup (⟨#[115, 116, 97, 110, 100, 115]⟩ : Str) = some (.lst (st.map .str))) (hst : ∀ o ∈ st, o ∈ names) (hn : st.length ≤ 20) {nm : Str} : clN p (n + 2) (⟨#[83, 105, 103, 110, 97, 116, 117, 114, 101, 115, 46, 99, 104, 105, 108, 100, 114, 101, 110]⟩ : Str) [.obj p.CS l, .str nm] k = some (.lst ((kids R st nm).map .str), k) := by
  have h1 := hl.nom (⟨#[112, 97, 114, 101, 110, 116]⟩ : Str) (by kernel_rfl)
  refine fnR N_Signatures_children.1 (stL hs (stA (limS hn) (stS (o := compOf (tbX p) 39 N_Signatures_children.1.sc [((⟨#[115, 101, 108, 102]⟩ : Str), false, .obj p.CS l), ((⟨#[110, 97, 109, 101]⟩ : Str), false, .str nm)] k (rE (stAt N_Signatures_children.1.body 0)) (st.map .str)) (cmpO .str (fun o => (R o).par == nm) .str fun o ho => ⟨stA h1 (stC (C_parent (n := n) (k := k) hl H (hst o ho)) stR), fun _ => ⟨false, stR⟩⟩) stR)))
/-- the names, parents first -/
noncomputable def pfStep (R : Str → Row) (s : List Str × List Str) : Option (Option (List Str × List Str)) :=
  if s.2 = [] then some none else if s.1.length ≤ 20 ∧ s.2.length ≤ 20 then (match s.2.filter fun nm => ((dirOf (R nm)).filter fun o => !(s.1.any (· == o))).isEmpty with
    | [] => none
    | a :: _ => some (some (s.1 ++ [a], s.2.erase a))) else none
theorem posD {w : List Str} (h : w ≠ []) : decide ((0 : Int) < (w.map D.str).length) = true := by
  rw [List.length_map]
  exact decide_eq_true (Int.ofNat_lt.mpr (List.length_pos_iff.mpr h))
theorem c_parents_first (hl : SgOk l E) (H : EntOk names E R) {st : List Str} (hs : l.lookup (⟨#[115, 116, 97, 110, 100, 115]⟩ : Str) = some (.lst (st.map .str))) (hst : ∀ o ∈ st, o ∈ names) (hn : st.length ≤ 20) {f w : List Str} {m : Nat} (hm : m ≤ 64) (hi : iter (pfStep R) m ([], st) = some (f, w)) : clN p (n + 3) (⟨#[83, 105, 103, 110, 97, 116, 117, 114, 101, 115, 46, 112, 97, 114, 101, 110, 116, 115, 95, 102, 105, 114, 115, 116]⟩ : Str) [.obj p.CS l] k = some (.lst (f.map .str), k) := by
  have h1 := hl.nom (⟨#[100, 105, 114, 101, 99, 116]⟩ : Str) (by kernel_rfl)
  refine fnB N_Signatures_parents_first.1 [((⟨#[115, 101, 108, 102]⟩ : Str), false, .obj p.CS l)] (sq (vs' := [((⟨#[115, 101, 108, 102]⟩ : Str), false, .obj p.CS l), ((⟨#[102, 111, 117, 110, 100]⟩ : Str), true, .lst []), ((⟨#[114, 101, 115, 116]⟩ : Str), true, .lst (st.map .str))]) (k' := k) (stL hs (stA (limS hn) stR)) (sqW ?_))
  refine wh_then (fun s vs k' => k' = k ∧ (∀ o ∈ s.2, o ∈ names) ∧ ∃ X, vs = ((⟨#[115, 101, 108, 102]⟩ : Str), false, .obj p.CS l) :: ((⟨#[102, 111, 117, 110, 100]⟩ : Str), true, .lst (s.1.map .str)) :: ((⟨#[114, 101, 115, 116]⟩ : Str), true, .lst (s.2.map .str)) :: X ∧ (X = [] ∨ ∃ d, X = [((⟨#[97, 98, 108, 101]⟩ : Str), false, d)])) (pfStep R) (P := fun o => o = _) ?_ ?_ hi hm ⟨rfl, hst, [], rfl, .inl rfl⟩
  · rintro ⟨f, w⟩ vs k' ⟨rfl, i0, X, rfl, hX⟩
    unfold pfStep
    dsimp only at i0 ⊢
    by_cases hw : w = []
    · subst hw
      rw [if_pos rfl]
      rcases hX with rfl | ⟨d, rfl⟩ <;> exact stR
    · rw [if_neg hw]
      by_cases hb : f.length ≤ 20 ∧ w.length ≤ 20
      · rw [if_pos hb]
        have hc : ∀ X, X = [] ∨ (∃ d, X = [((⟨#[97, 98, 108, 101]⟩ : Str), false, d)]) → (compOf (tbX p) 39 N_Signatures_parents_first.1.sc (((⟨#[115, 101, 108, 102]⟩ : Str), false, .obj p.CS l) :: ((⟨#[102, 111, 117, 110, 100]⟩ : Str), true, .lst (f.map .str)) :: ((⟨#[114, 101, 115, 116]⟩ : Str), true, .lst (w.map .str)) :: X) k' (rE (stAt (fB (stAt N_Signatures_parents_first.1.body 1)) 0)) (w.map .str)).run (clN p (n + 2)) = some ((w.filter fun nm => ((dirOf (R nm)).filter fun o => !(f.any (· == o))).isEmpty).map .str, k') := by
          intro X hX
          refine cmpO .str _ .str fun o ho => ⟨?_, fun _ => ⟨false, stR⟩⟩
          refine stA h1 (stC (C_direct (n := n) (k := k') hl H (i0 o ho)) (stA (dir_lim H (i0 o ho)) (stS (o := compOf (tbX p) 37 (relab N_Signatures_parents_first.1.sc (cpOf (rE (stAt (fB (stAt N_Signatures_parents_first.1.body 1)) 0))).2.2) (((⟨#[110, 97, 109, 101]⟩ : Str), false, .str o) :: ((⟨#[115, 101, 108, 102]⟩ : Str), false, .obj p.CS l) :: ((⟨#[102, 111, 117, 110, 100]⟩ : Str), true, .lst (f.map .str)) :: ((⟨#[114, 101, 115, 116]⟩ : Str), true, .lst (w.map .str)) :: X) k' (lE ((cpIfs (rE (stAt (fB (stAt N_Signatures_parents_first.1.body 1)) 0))).headD (.Name ⟨#[]⟩ ⟨0, 0, 0, 0⟩))) ((dirOf (R o)).map .str))
            (cmpO .str (fun o => !(f.any (· == o))) .str fun o' ho' => ⟨stO (notIn o' f) stR, fun _ => ⟨false, stR⟩⟩) (stO (eqNil ((dirOf (R o)).filter fun o => !(f.any (· == o)))) stR))))
        cases ha : w.filter fun nm => ((dirOf (R nm)).filter fun o => !(f.any (· == o))).isEmpty with
        | nil => exact True.intro
        | cons a r =>
          have ham : a ∈ w := (List.mem_filter.mp (ha ▸ List.mem_cons_self : a ∈ w.filter _)).1
          have hr : r.length + 1 ≤ 20 := Nat.le_trans (ha ▸ List.length_filter_le _ w : (a :: r).length ≤ w.length) hb.2
          rw [ha] at hc
          have e0 : ((((r.map D.str).length + 1 : Nat) : Int) == 0) = false := rfl
          refine ⟨k', ?_, .nxt, [((⟨#[115, 101, 108, 102]⟩ : Str), false, .obj p.CS l), ((⟨#[102, 111, 117, 110, 100]⟩ : Str), true, .lst ((f ++ [a]).map .str)), ((⟨#[114, 101, 115, 116]⟩ : Str), true, .lst ((w.erase a).map .str)), ((⟨#[97, 98, 108, 101]⟩ : Str), false, .lst ((a :: r).map .str))], k', ?_, .inl rfl, rfl, fun o ho => i0 o (List.mem_of_mem_erase ho), _, rfl, .inr ⟨_, rfl⟩⟩
          · rcases hX with rfl | ⟨d, rfl⟩ <;> exact runE (posD hw) (stA (limS hb.2) stR)
          · rw [List.map_append]
            rcases hX with rfl | ⟨d, rfl⟩
            · exact stA (limS hb.2) (stS (hc _ (.inl rfl)) (stA (limS (st := a :: r) hr) (stB e0 (stA (limS hb.1) (stA (limS hb.2) (stO (remE ham) stR))))))
            · exact stA (limS hb.2) (stS (hc _ (.inr ⟨d, rfl⟩)) (stA (limS (st := a :: r) hr) (stB e0 (stA (limS hb.1) (stA (limS hb.2) (stO (remE ham) stR))))))
      · rw [if_neg hb]; exact True.intro
  · rintro vs k' ⟨rfl, i0, X, rfl, hX⟩
    rcases hX with rfl | ⟨d, rfl⟩ <;> exact stR
end
end Mine

-- C4
namespace Mine
section
variable {p : Par} {n k : Nat} {l E : List (Str × D)} {names : List Str} {R : Str → Row}
theorem c_all_fields (hl : SgOk l E) (H : EntOk names E R) {st : List Str} (hs : l.lookup (⟨#[111, 114, 100, 101, 114, 101, 100]⟩ : Str) = some (.lst (st.map .str))) (hst : ∀ o ∈ st, o ∈ names) (hn : st.length ≤ 20) : clN p (n + 1) (⟨#[83, 105, 103, 110, 97, 116, 117, 114, 101, 115, 46, 97, 108, 108, 95, 102, 105, 101, 108, 100, 115]⟩ : Str) [.obj p.CS l] k = some (.lst [], k) := by
  refine fnB N_Signatures_all_fields.1 [((⟨#[115, 101, 108, 102]⟩ : Str), false, .obj p.CS l)] (sq (vs' := [((⟨#[115, 101, 108, 102]⟩ : Str), false, .obj p.CS l), ((⟨#[102, 111, 117, 110, 100]⟩ : Str), true, .lst []), ((⟨#[103, 114, 111, 117, 112]⟩ : Str), false, .int 0)]) (k' := k) stR (sqF (k' := k) (stL hs stR) (limS hn) ?_))
  refine for_each (fun vs k' => k' = k ∧ ∃ X, vs = ((⟨#[115, 101, 108, 102]⟩ : Str), false, .obj p.CS l) :: ((⟨#[102, 111, 117, 110, 100]⟩ : Str), true, .lst []) :: ((⟨#[103, 114, 111, 117, 112]⟩ : Str), false, .int 0) :: X ∧ (X = [] ∨ ∃ d, X = [((⟨#[110, 97, 109, 101]⟩ : Str), false, d)])) (P := fun o => o = _) ⟨rfl, [], rfl, .inl rfl⟩ ?_ ?_
  · rintro d hd vs k' ⟨rfl, X, rfl, hX⟩
    obtain ⟨o, ho, rfl⟩ := List.mem_map.mp hd
    obtain ⟨ns, e, _⟩ := H.e o (hst o ho)
    have e : subF (tbX p) k' (.dct E) (.str o) = some (itD ns (R o)) := e
    refine ⟨.nxt, [((⟨#[115, 101, 108, 102]⟩ : Str), false, .obj p.CS l), ((⟨#[102, 111, 117, 110, 100]⟩ : Str), true, .lst []), ((⟨#[103, 114, 111, 117, 112]⟩ : Str), false, .int 0), ((⟨#[110, 97, 109, 101]⟩ : Str), false, .str o)], k', ?_, .inl rfl, rfl, _, rfl, .inr ⟨.str o, rfl⟩⟩
    rcases hX with rfl | ⟨d, rfl⟩ <;> exact stL hl.ent (stL e stR)
  · rintro vs k' ⟨rfl, X, rfl, hX⟩
    rcases hX with rfl | ⟨d, rfl⟩ <;> exact stR
theorem c_look_fields (hs : l.lookup (⟨#[111, 119, 110, 95, 102, 105, 101, 108, 100, 115]⟩ : Str) = some (.lst [])) : clN p (n + 1) (⟨#[83, 105, 103, 110, 97, 116, 117, 114, 101, 115, 46, 108, 111, 111, 107, 95, 102, 105, 101, 108, 100, 115]⟩ : Str) [.obj p.CS l] k = some (.none, k) := fnR N_Signatures_look_fields.1 (stL hs stR)
theorem c_names {st : List Str} (hs : l.lookup (⟨#[111, 114, 100, 101, 114, 101, 100]⟩ : Str) = some (.lst (st.map .str))) (hn : st.length ≤ 20) : clN p (n + 1) (⟨#[83, 105, 103, 110, 97, 116, 117, 114, 101, 115, 46, 110, 97, 109, 101, 115]⟩ : Str) [.obj p.CS l] k = some (.lst (st.map .str), k) := fnR N_Signatures_names.1 (stL hs (stA (limS hn) stR))
theorem c_fields (hs : l.lookup (⟨#[111, 119, 110, 95, 102, 105, 101, 108, 100, 115]⟩ : Str) = some (.lst [])) : clN p (n + 1) (⟨#[83, 105, 103, 110, 97, 116, 117, 114, 101, 115, 46, 102, 105, 101, 108, 100, 115]⟩ : Str) [.obj p.CS l] k = some (.lst [], k) := fnR N_Signatures_fields.1 (stL hs stR)
/-- all above, by their names -/
noncomputable def aaStep (R : Str → Row) (s : List Str × List Str) : Option (Option (List Str × List Str)) :=
  match s.2 with
  | [] => some none
  | o :: w => if s.1.length ≤ 20 ∧ w.length ≤ 20 then (if s.1.any (· == o) then some (some (s.1, w)) else some (some (s.1 ++ [o], w ++ dirOf (R o)))) else none
theorem pop0 {o : Str} {w : List Str} : decide ((0 : Int) ≤ 0 ∧ (0 : Int) < (((o :: w).map D.str).length : Nat)) = true := decide_eq_true ⟨Int.le_refl 0, Int.ofNat_lt.mpr (Nat.succ_pos _)⟩
theorem lim21 {o : Str} {w : List Str} (h : w.length ≤ 20) : decide (((o :: w).map D.str).length ≤ lim) = true := limD (m := 21) (by rw [List.length_map]; exact Nat.succ_le_succ h) rfl
theorem c_all_above (hl : SgOk l E) (H : EntOk names E R) {nm : Str} (hnm : nm ∈ names) {f w : List Str} {m : Nat} (hm : m ≤ 64) (hi : iter (aaStep R) m ([], dirOf (R nm)) = some (f, w)) : clN p (n + 3) (⟨#[83, 105, 103, 110, 97, 116, 117, 114, 101, 115, 46, 97, 108, 108, 95, 97, 98, 111, 118, 101]⟩ : Str) [.obj p.CS l, .str nm] k = some (.lst (f.map .str), k) := by
  have h1 := hl.nom (⟨#[100, 105, 114, 101, 99, 116]⟩ : Str) (by kernel_rfl)
  have hc : ∀ o ∈ names, ∀ k, clN p (n + 2) (⟨#[83, 105, 103, 110, 97, 116, 117, 114, 101, 115, 46, 100, 105, 114, 101, 99, 116]⟩ : Str) [.obj p.CS l, .str o] k = some (.tup ((dirOf (R o)).map .str), k) := fun o h k => C_direct hl H h
  refine fnB N_Signatures_all_above.1 [((⟨#[115, 101, 108, 102]⟩ : Str), false, .obj p.CS l), ((⟨#[110, 97, 109, 101]⟩ : Str), false, .str nm)] (sq (vs' := [((⟨#[115, 101, 108, 102]⟩ : Str), false, .obj p.CS l), ((⟨#[110, 97, 109, 101]⟩ : Str), false, .str nm), ((⟨#[102, 111, 117, 110, 100]⟩ : Str), true, .lst []), ((⟨#[119, 97, 105, 116, 105, 110, 103]⟩ : Str), true, .lst ((dirOf (R nm)).map .str))]) (k' := k) (stA h1 (stC (hc nm hnm k) (stA (dir_lim H hnm) stR))) (sqW ?_))
  refine wh_then (fun s vs k' => k' = k ∧ (∀ o ∈ s.2, o ∈ names) ∧ ∃ X, vs = ((⟨#[115, 101, 108, 102]⟩ : Str), false, .obj p.CS l) :: ((⟨#[110, 97, 109, 101]⟩ : Str), false, .str nm) :: ((⟨#[102, 111, 117, 110, 100]⟩ : Str), true, .lst (s.1.map .str)) :: ((⟨#[119, 97, 105, 116, 105, 110, 103]⟩ : Str), true, .lst (s.2.map .str)) :: X ∧ (X = [] ∨ ∃ d, X = [((⟨#[111, 116, 104, 101, 114]⟩ : Str), false, d)])) (aaStep R) (P := fun o => o = _) ?_ ?_ hi hm ⟨rfl, H.cl nm hnm, [], rfl, .inl rfl⟩
  · rintro ⟨f, w⟩ vs k' ⟨rfl, i0, X, rfl, hX⟩
    unfold aaStep
    dsimp only at i0 ⊢
    cases w with
    | nil => rcases hX with rfl | ⟨d, rfl⟩ <;> exact stR
    | cons o w =>
      have ho := i0 o List.mem_cons_self
      dsimp only
      by_cases hb : f.length ≤ 20 ∧ w.length ≤ 20
      · rw [if_pos hb]
        obtain ⟨b1, b2⟩ := hb
        have ht : ∀ X, X = [] ∨ (∃ d, X = [((⟨#[111, 116, 104, 101, 114]⟩ : Str), false, d)]) → (evB (evE (tbX p) 40 N_Signatures_all_above.1.sc (((⟨#[115, 101, 108, 102]⟩ : Str), false, .obj p.CS l) :: ((⟨#[110, 97, 109, 101]⟩ : Str), false, .str nm) :: ((⟨#[102, 111, 117, 110, 100]⟩ : Str), true, .lst (f.map .str)) :: ((⟨#[119, 97, 105, 116, 105, 110, 103]⟩ : Str), true, .lst ((o :: w).map .str)) :: X)) k' (wT (stAt N_Signatures_all_above.1.body 1))).run (clN p (n + 2)) = some (true, k') := by
          rintro X (rfl | ⟨d, rfl⟩) <;> exact runE (posD (List.cons_ne_nil o w)) (stA (lim21 (o := o) b2) stR)
        cases q : f.any (· == o) with
        | true =>
          rw [if_pos rfl]
          have q' : (!(f.any (· == o))) = false := by rw [q]; rfl
          refine ⟨k', ht X hX, .nxt, [((⟨#[115, 101, 108, 102]⟩ : Str), false, .obj p.CS l), ((⟨#[110, 97, 109, 101]⟩ : Str), false, .str nm), ((⟨#[102, 111, 117, 110, 100]⟩ : Str), true, .lst (f.map .str)), ((⟨#[119, 97, 105, 116, 105, 110, 103]⟩ : Str), true, .lst (w.map .str)), ((⟨#[111, 116, 104, 101, 114]⟩ : Str), false, .str o)], k', ?_, .inl rfl, rfl, fun x hx => i0 x (List.mem_cons_of_mem _ hx), _, rfl, .inr ⟨_, rfl⟩⟩
          rcases hX with rfl | ⟨d, rfl⟩ <;> exact stA (lim21 (o := o) b2) (stA (pop0 (o := o) (w := w)) (stOn (notIn o f) 1 (stB q' stR)))
        | false =>
          rw [if_neg (by decide)]
          have q' : (!(f.any (· == o))) = true := by rw [q]; rfl
          have he : decide ((w.map D.str).length + ((dirOf (R o)).map D.str).length ≤ lim) = true := limN (m := 25) (by
            rw [List.length_map, List.length_map]
            exact Nat.add_le_add b2 (dirOf_len (H.e o ho).choose_spec.2)) rfl
          refine ⟨k', ht X hX, .nxt, [((⟨#[115, 101, 108, 102]⟩ : Str), false, .obj p.CS l), ((⟨#[110, 97, 109, 101]⟩ : Str), false, .str nm), ((⟨#[102, 111, 117, 110, 100]⟩ : Str), true, .lst ((f ++ [o]).map .str)), ((⟨#[119, 97, 105, 116, 105, 110, 103]⟩ : Str), true, .lst ((w ++ dirOf (R o)).map .str)), ((⟨#[111, 116, 104, 101, 114]⟩ : Str), false, .str o)], k', ?_, .inl rfl, rfl, fun x hx => ?_, _, rfl, .inr ⟨_, rfl⟩⟩
          · rw [List.map_append, List.map_append]
            rcases hX with rfl | ⟨d, rfl⟩ <;> exact stA (lim21 (o := o) b2) (stA (pop0 (o := o) (w := w)) (stOn (notIn o f) 1 (stB q' (stA (limS b1) (stA (limS b2) (stA h1 (stC (hc o ho k') (stA he stR))))))))
          · exact (List.mem_append.mp hx).elim (fun hx => i0 x (List.mem_cons_of_mem _ hx)) (H.cl o ho x)
      · rw [if_neg hb]; exact True.intro
  · rintro vs k' ⟨rfl, i0, X, rfl, hX⟩
    rcases hX with rfl | ⟨d, rfl⟩ <;> exact stR
end
end Mine

-- C5
namespace Mine
theorem slcD_plain {α : Type} (l : List α) (lo hi : Option Int) : slcD l lo hi = (l.drop (lo.elim 0 (clipAt l.length))).take (hi.elim l.length (clipAt l.length) - lo.elim 0 (clipAt l.length)) := by
  unfold slcD
  rw [sliceBounds_plain]
  simp only [sliceRange_one]
  have := pick_run l.toArray (lo.elim 0 (clipAt l.length)) (hi.elim l.length (clipAt l.length) - lo.elim 0 (clipAt l.length))
  simpa using this
theorem slcD_from {α : Type} (l : List α) (a : Nat) : slcD l (some (a : Int)) none = l.drop a := by
  rw [slcD_plain]
  simp only [Option.elim, clipAt_nat]
  rcases Nat.le_total a l.length with h | h
  · rw [Nat.min_eq_left h, List.take_of_length_le (by simp)]
  · rw [Nat.min_eq_right h, List.drop_of_length_le (by simp), List.drop_of_length_le (by simpa using h)]; simp
theorem slcD_mid {α : Type} (l : List α) (a b : Nat) (h : b ≤ l.length) (h2 : a ≤ b) : slcD l (some (a : Int)) (some (b : Int)) = (l.drop a).take (b - a) := by
  rw [slcD_plain]
  simp only [Option.elim, clipAt_nat]
  rw [Nat.min_eq_left h, Nat.min_eq_left (Nat.le_trans h2 h)]
section
variable {p : Par} {n k : Nat} {l lo E N : List (Str × D)} {names : List Str} {R : Str → Row} {num : Str → Int}
structure OpOk (lo l N : List (Str × D)) (p : Par) : Prop where
  sig : lo.lookup (⟨#[115, 105, 103, 110, 97, 116, 117, 114, 101, 115]⟩ : Str) = some (.obj p.CS l)
  num : lo.lookup (⟨#[110, 117, 109, 98, 101, 114, 115]⟩ : Str) = some (.dct N)
  nom : (lo.lookup (⟨#[116, 104, 105, 115, 95, 101, 110, 118]⟩ : Str)).isNone = true
noncomputable def relD (i : Int) : D := .tup [.str (⟨#[114, 101, 108]⟩ : Str), .int i]
theorem c_relation (ho : OpOk lo l N p) {nm : Str} (hn : N.lookup nm = some (.int (num nm))) : clN p (n + 1) (⟨#[114, 101, 108, 97, 116, 105, 111, 110]⟩ : Str) [.obj p.CO lo, .str nm] k = some (relD (num nm), k) := by
  have hn : subF (tbX p) k (.dct N) (.str nm) = some (.int (num nm)) := hn
  exact fnR N_relation.1 (stL ho.num (stL hn stR))
noncomputable def joinedD : List D → D
  | [f] => f
  | fs => .tup [.str (⟨#[97, 110, 100]⟩ : Str), .tup fs]
theorem c_joined {fs : List D} (h : fs.length ≤ 100) : clN p (n + 1) (⟨#[106, 111, 105, 110, 101, 100]⟩ : Str) [.lst fs] k = some (joinedD fs, k) := by
  match fs, h with
  | [], _ => exact fnR N_joined.1 stR
  | [f], _ => exact fnR N_joined.1 stR
  | a :: b :: r, h => exact fnR N_joined.1 (stA (limD h rfl) (stA (limD h rfl) stR))
noncomputable def unionD (a b : D) : D := .tup [.str (⟨#[117, 110, 105, 111, 110]⟩ : Str), a, b]
theorem c_united {e : D} {r : List D} (h : r.length ≤ 100) : clN p (n + 1) (⟨#[117, 110, 105, 116, 101, 100, 95, 105, 109, 112, 108, 105, 99, 105, 116]⟩ : Str) [.lst (e :: r)] k = some (r.foldl unionD e, k) := by
  refine fnB N_united.1 [((⟨#[101, 120, 112, 114, 115]⟩ : Str), false, .lst (e :: r))] (sq (vs' := [((⟨#[101, 120, 112, 114, 115]⟩ : Str), false, .lst (e :: r)), ((⟨#[102, 111, 117, 110, 100]⟩ : Str), false, e)]) (k' := k) stR (sqF (k' := k) (l := r) (runE (slcD_from (e :: r) 1) (stA (limD (m := 101) (X := e :: r) (Nat.succ_le_succ h) rfl) stR)) (limD h rfl) ?_))
  refine for_then (fun rem vs k' => k' = k ∧ ∃ d X, vs = ((⟨#[101, 120, 112, 114, 115]⟩ : Str), false, .lst (e :: r)) :: ((⟨#[102, 111, 117, 110, 100]⟩ : Str), false, d) :: X ∧ (X = [] ∨ ∃ d, X = [((⟨#[101, 120, 112, 114]⟩ : Str), false, d)]) ∧ rem.foldl unionD d = r.foldl unionD e) (P := fun o => o = _) ?_ ?_ ⟨rfl, e, [], rfl, .inl rfl, rfl⟩
  · rintro d rem vs k' ⟨rfl, f, X, rfl, hX, i2⟩
    refine ⟨.nxt, [((⟨#[101, 120, 112, 114, 115]⟩ : Str), false, .lst (e :: r)), ((⟨#[102, 111, 117, 110, 100]⟩ : Str), false, unionD f d), ((⟨#[101, 120, 112, 114]⟩ : Str), false, d)], k', ?_, .inl rfl, rfl, _, _, rfl, .inr ⟨_, rfl⟩, i2⟩
    rcases hX with rfl | ⟨d', rfl⟩ <;> exact stR
  · rintro vs k' ⟨rfl, f, X, rfl, hX, i2⟩
    rw [← i2]
    rcases hX with rfl | ⟨d', rfl⟩ <;> exact stR
noncomputable def thisD : D := .tup [.str (⟨#[118, 97, 114]⟩ : Str), .str (⟨#[116, 104, 105, 115]⟩ : Str)]
theorem c_this_env (hl : SgOk l E) (ho : OpOk lo l N p) (H : EntOk names E R) (hf : l.lookup (⟨#[111, 119, 110, 95, 102, 105, 101, 108, 100, 115]⟩ : Str) = some (.lst [])) {nm : Str} (hnm : nm ∈ names) {f w : List Str} {m : Nat} (hm : m ≤ 64) (hi : iter (aaStep R) m ([], dirOf (R nm)) = some (f, w)) (hfl : f.length ≤ 50) : clN p (n + 4) (⟨#[78, 97, 109, 101, 115, 46, 116, 104, 105, 115, 95, 101, 110, 118]⟩ : Str) [.obj p.CO lo, .str nm, thisD] k = some (.dct [((⟨#[116, 104, 105, 115]⟩ : Str), thisD)], k) := by
  have h1 := hl.nom (⟨#[97, 108, 108, 95, 97, 98, 111, 118, 101]⟩ : Str) (by kernel_rfl)
  have h2 := hl.nom (⟨#[102, 105, 101, 108, 100, 115]⟩ : Str) (by kernel_rfl)
  exact fnR N_Names_this_env.1 (stL ho.sig (stA h1 (stC (c_all_above (n := n) (k := k) hl H hnm hm hi) (stA (limN (a := 1 + (f.map D.str).length) (m := 51) (by rw [List.length_map, Nat.add_comm]; exact Nat.succ_le_succ hfl) rfl) (stL ho.sig (stA h2 (stC (c_fields (n := n + 2) (k := k) hf) stR)))))))
theorem c_fact_formulas (hl : SgOk l E) (ho : OpOk lo l N p) (H : EntOk names E R) (hf : l.lookup (⟨#[111, 119, 110, 95, 102, 105, 101, 108, 100, 115]⟩ : Str) = some (.lst [])) {nm : Str} (hnm : nm ∈ names) {f w : List Str} {m : Nat} (hm : m ≤ 64) (hi : iter (aaStep R) m ([], dirOf (R nm)) = some (f, w)) (hfl : f.length ≤ 50) : clN p (n + 5) (⟨#[102, 97, 99, 116, 95, 102, 111, 114, 109, 117, 108, 97, 115]⟩ : Str) [.obj p.CS l, .obj p.CO lo, .str nm] k = some (.lst [], k) := by
  have h1 := hl.nom (⟨#[102, 97, 99, 116, 115]⟩ : Str) (by kernel_rfl)
  obtain ⟨ns, e, _⟩ := H.e nm hnm
  exact fnR N_fact_formulas.1 (stA ho.nom (stC (c_this_env (n := n) (k := k) hl ho H hf hnm hm hi hfl) (stA h1 (stC (c_facts (n := n + 3) (k := k) hl e) (stS (o := .ret ([], k)) rfl stR)))))
end
end Mine

-- C6
namespace Mine
section
variable {p : Par} {n k : Nat} {l lo E N : List (Str × D)} {names : List Str} {R : Str → Row} {num : Str → Int}
noncomputable def NumOk (names : List Str) (N : List (Str × D)) (num : Str → Int) : Prop := ∀ nm ∈ names, N.lookup nm = some (.int (num nm))
noncomputable def inF (a b : D) : D := .tup [.str (⟨#[105, 110]⟩ : Str), a, b]
noncomputable def noF (a b : D) : D := .tup [.str (⟨#[110, 111]⟩ : Str), .tup [.str (⟨#[109, 101, 101, 116]⟩ : Str), a, b]]
noncomputable def marked (m : Str) : Bool := [(⟨#[111, 110, 101]⟩ : Str), (⟨#[108, 111, 110, 101]⟩ : Str), (⟨#[115, 111, 109, 101]⟩ : Str)].any (· == m)
noncomputable def unD (num : Str → Int) : List Str → D
  | [] => .none
  | e :: r => (r.map fun o => relD (num o)).foldl unionD (relD (num e))
noncomputable def placeL (R : Str → Row) (num : Str → Int) (nm : Str) : List D :=
  (if (R nm).par = (⟨#[]⟩ : Str) then [] else [inF (relD (num nm)) (relD (num (R nm).par))]) ++
  (if (R nm).parts = [] then [] else [inF (relD (num nm)) (unD num (R nm).parts)]) ++
  (if marked (R nm).mark = true then [.tup [.str (R nm).mark, relD (num nm)]] else [])
theorem C_relation (ho : OpOk lo l N p) (hN : NumOk names N num) {nm : Str} (h : nm ∈ names) : clN p (n + 1) (⟨#[114, 101, 108, 97, 116, 105, 111, 110]⟩ : Str) [.obj p.CO lo, .str nm] k = some (relD (num nm), k) := c_relation ho (hN nm h)
theorem mem_parts {r : Row} {o : Str} (h : o ∈ r.parts) : o ∈ dirOf r := by
  unfold dirOf; exact List.mem_append_right _ h
noncomputable def plV (p : Par) (lo l : List (Str × D)) (nm : Str) (own : D) (X : List D) : Vars := [((⟨#[115, 105, 103, 110, 97, 116, 117, 114, 101, 115]⟩ : Str), false, .obj p.CS l), ((⟨#[111, 112, 101, 110, 101, 114]⟩ : Str), false, .obj p.CO lo), ((⟨#[110, 97, 109, 101]⟩ : Str), false, .str nm), ((⟨#[111, 119, 110]⟩ : Str), false, own), ((⟨#[102, 111, 117, 110, 100]⟩ : Str), true, .lst X)]
noncomputable abbrev plS (p : Par) (i : Nat) (vs : Vars) (k : Nat) := evS (tbX p) N_place_formulas.1.sc 20 (stAt N_place_formulas.1.body i) vs k
theorem pl1 {X : List D} {own : D} (hl : SgOk l E) (ho : OpOk lo l N p) (H : EntOk names E R) (hN : NumOk names N num) {nm : Str} (hnm : nm ∈ names) {ns : D} (e : E.lookup nm = some (itD ns (R nm))) (hX : X.length ≤ 5) : (plS p 1 (plV p lo l nm own X) k).run (clN p (n + 1)) = some (.nxt, plV p lo l nm own (X ++ if (R nm).par = (⟨#[]⟩ : Str) then [] else [inF own (relD (num (R nm).par))]), k) := by
  have h1 := hl.nom (⟨#[112, 97, 114, 101, 110, 116]⟩ : Str) (by kernel_rfl)
  have hp := c_parent (p := p) (n := n) (k := k) hl e
  by_cases q1 : (R nm).par = (⟨#[]⟩ : Str)
  · have q' : (!((R nm).par == (⟨#[]⟩ : Str))) = false := by rw [q1]; rfl
    rw [if_pos q1, List.append_nil]
    exact stA h1 (stC hp (stB q' stR))
  · have q' : (!((R nm).par == (⟨#[]⟩ : Str))) = true := by simpa using q1
    rw [if_neg q1]
    exact stA h1 (stC hp (stB q' (stA (limD hX rfl) (stA h1 (stC hp (stC (C_relation (n := n) (k := k) ho hN (H.cl nm hnm _ (mem_par q1))) stR))))))
/-- the comprehension in the second if's body: the argument of the call that is the third item of the tuple appended -/
noncomputable def inE : Stmt → Expr
  | .If _ (.Expr (.Call _ (.Tuple (_ :: _ :: c :: _) _ _ :: _) _ _) _ :: _) _ _ => argE c
  | _ => .Name ⟨#[]⟩ ⟨0, 0, 0, 0⟩
theorem pl2 {X : List D} {own : D} (hl : SgOk l E) (ho : OpOk lo l N p) (H : EntOk names E R) (hN : NumOk names N num) {nm : Str} (hnm : nm ∈ names) {ns : D} (e : E.lookup nm = some (itD ns (R nm))) (hp : (R nm).parts.length ≤ 4) (hq : (R nm).parts.length ≤ 2) (hX : X.length ≤ 5) : (plS p 2 (plV p lo l nm own X) k).run (clN p (n + 1)) = some (.nxt, plV p lo l nm own (X ++ if (R nm).parts = [] then [] else [inF own (unD num (R nm).parts)]), k) := by
  have h2 := hl.nom (⟨#[115, 117, 112, 101, 114, 115]⟩ : Str) (by kernel_rfl)
  have hs := c_supers (p := p) (n := n) (k := k) hl e hp
  have hm : ∀ o ∈ (R nm).parts, clN p (n + 1) (⟨#[114, 101, 108, 97, 116, 105, 111, 110]⟩ : Str) [.obj p.CO lo, .str o] k = some (relD (num o), k) := fun o h => C_relation ho hN (H.cl nm hnm o (mem_parts h))
  have hz := limD hX rfl
  revert hs hq hm
  cases (R nm).parts with
  | nil =>
    intro _ hs _
    rw [if_pos rfl, List.append_nil]
    exact stA h2 (stC hs stR)
  | cons a r =>
    intro hq hs hm
    rw [if_neg (List.cons_ne_nil _ _)]
    have ca := hm a List.mem_cons_self
    cases r with
    | nil =>
      have hu : clN p (n + 1) (⟨#[117, 110, 105, 116, 101, 100, 95, 105, 109, 112, 108, 105, 99, 105, 116]⟩ : Str) [.lst [relD (num a)]] k = some (relD (num a), k) := c_united (by decide)
      exact stA h2 (stC hs (stAn hz 1 (stA h2 (stC hs (stS (o := compOf (tbX p) 37 N_place_formulas.1.sc (plV p lo l nm own X) k (inE (stAt N_place_formulas.1.body 2)) [.str a]) (r := ([relD (num a)], k)) (stC ca stR) (stC hu stR))))))
    | cons b r =>
    cases r with
    | cons _ _ => exact absurd hq (by simp)
    | nil =>
      have hu : clN p (n + 1) (⟨#[117, 110, 105, 116, 101, 100, 95, 105, 109, 112, 108, 105, 99, 105, 116]⟩ : Str) [.lst [relD (num a), relD (num b)]] k = some (unionD (relD (num a)) (relD (num b)), k) := c_united (Nat.le_of_ble_eq_true rfl)
      exact stA h2 (stC hs (stAn hz 1 (stA h2 (stC hs (stS (o := compOf (tbX p) 37 N_place_formulas.1.sc (plV p lo l nm own X) k (inE (stAt N_place_formulas.1.body 2)) [.str a, .str b]) (r := ([relD (num a), relD (num b)], k)) (stC ca (stC (hm b (List.mem_cons_of_mem _ List.mem_cons_self)) stR)) (stC hu stR))))))
theorem pl3 {X : List D} {own : D} (hl : SgOk l E) {nm : Str} {ns : D} (e : E.lookup nm = some (itD ns (R nm))) (hX : X.length ≤ 5) : (plS p 3 (plV p lo l nm own X) k).run (clN p (n + 1)) = some (.nxt, plV p lo l nm own (X ++ if marked (R nm).mark = true then [.tup [.str (R nm).mark, own]] else []), k) := by
  have h3 := hl.nom (⟨#[109, 117, 108, 116]⟩ : Str) (by kernel_rfl)
  have hm := c_mult (p := p) (n := n) (k := k) hl e
  cases q3 : marked (R nm).mark with
  | true => exact stA h3 (stC hm (stB q3 (stA (limD hX rfl) (stA h3 (stC hm stR)))))
  | false =>
    rw [if_neg (by decide), List.append_nil]
    exact stA h3 (stC hm (stB q3 stR))
theorem c_place (hl : SgOk l E) (ho : OpOk lo l N p) (H : EntOk names E R) (hN : NumOk names N num) {nm : Str} (hnm : nm ∈ names) (hq : (R nm).parts.length ≤ 2) : clN p (n + 2) (⟨#[112, 108, 97, 99, 101, 95, 102, 111, 114, 109, 117, 108, 97, 115]⟩ : Str) [.obj p.CS l, .obj p.CO lo, .str nm] k = some (.lst (placeL R num nm), k) := by
  obtain ⟨ns, e, hp⟩ := H.e nm hnm
  have z : ∀ (X : List D) (a : D) (P : Prop) [Decidable P], (X ++ if P then [] else [a]).length ≤ X.length + 1 := fun X a P _ => by
    rw [List.length_append]
    refine Nat.add_le_add_left ?_ _
    split
    · exact Nat.zero_le _
    · exact Nat.le_refl _
  exact fnB N_place_formulas.1 [((⟨#[115, 105, 103, 110, 97, 116, 117, 114, 101, 115]⟩ : Str), false, .obj p.CS l), ((⟨#[111, 112, 101, 110, 101, 114]⟩ : Str), false, .obj p.CO lo), ((⟨#[110, 97, 109, 101]⟩ : Str), false, .str nm)] (sq (vs' := plV p lo l nm (relD (num nm)) []) (k' := k) (stC (C_relation (n := n) (k := k) ho hN hnm) stR) (sq (pl1 hl ho H hN hnm e (Nat.zero_le _)) (sq (pl2 hl ho H hN hnm e hp hq (Nat.le_trans (z _ _ _) (Nat.le_of_ble_eq_true rfl))) (sq (pl3 hl e (Nat.le_trans (z _ _ _) (Nat.le_trans (Nat.add_le_add_right (z _ _ _) 1) (Nat.le_of_ble_eq_true rfl)))) stR))))
noncomputable def noL : List D → List D
  | [a, b] => [noF a b]
  | [a, b, c] => [noF a b, noF a c, noF b c]
  | _ => []
noncomputable def childL (R : Str → Row) (num : Str → Int) (st : List Str) (nm : Str) : List D :=
  noL ((kids R st nm).map fun o => relD (num o)) ++ (if (R nm).whole = true ∧ kids R st nm ≠ [] then [inF (relD (num nm)) (unD num (kids R st nm))] else [])
theorem c_children_formulas (hl : SgOk l E) (ho : OpOk lo l N p) (H : EntOk names E R) (hN : NumOk names N num) {st : List Str} (hs : l.lookup (⟨#[115, 116, 97, 110, 100, 115]⟩ : Str) = some (.lst (st.map .str))) (hst : ∀ o ∈ st, o ∈ names) (hn : st.length ≤ 20) {nm : Str} (hnm : nm ∈ names) (hq : (kids R st nm).length ≤ 3) : clN p (n + 3) (⟨#[99, 104, 105, 108, 100, 114, 101, 110, 95, 102, 111, 114, 109, 117, 108, 97, 115]⟩ : Str) [.obj p.CS l, .obj p.CO lo, .str nm] k = some (.lst (childL R num st nm), k) := by
  obtain ⟨ns, e, hp⟩ := H.e nm hnm
  have hc := c_children (p := p) (n := n) (k := k) hl H hs hst hn (nm := nm)
  have cr : ∀ o ∈ names, clN p (n + 2) (⟨#[114, 101, 108, 97, 116, 105, 111, 110]⟩ : Str) [.obj p.CO lo, .str o] k = some (relD (num o), k) := fun o h => C_relation ho hN h
  have hm : ∀ o ∈ kids R st nm, clN p (n + 2) (⟨#[114, 101, 108, 97, 116, 105, 111, 110]⟩ : Str) [.obj p.CO lo, .str o] k = some (relD (num o), k) := fun o h => cr o (hst o (List.mem_filter.mp h).1)
  have cn := cr nm hnm
  have h1 := hl.nom (⟨#[99, 104, 105, 108, 100, 114, 101, 110]⟩ : Str) (by kernel_rfl)
  have h2 := hl.nom (⟨#[105, 115, 95, 97, 98, 115, 116, 114, 97, 99, 116]⟩ : Str) (by kernel_rfl)
  have ha := c_is_abstract (p := p) (n := n + 1) (k := k) hl e
  have hx : ∀ ks : List Str, (∀ o ∈ ks, clN p (n + 2) (⟨#[114, 101, 108, 97, 116, 105, 111, 110]⟩ : Str) [.obj p.CO lo, .str o] k = some (relD (num o), k)) → (compOf (tbX p) 39 N_children_formulas.1.sc [((⟨#[115, 105, 103, 110, 97, 116, 117, 114, 101, 115]⟩ : Str), false, .obj p.CS l), ((⟨#[111, 112, 101, 110, 101, 114]⟩ : Str), false, .obj p.CO lo), ((⟨#[110, 97, 109, 101]⟩ : Str), false, .str nm)] k (tuE (rE (stAt N_children_formulas.1.body 0))) (ks.map .str)).run (clN p (n + 2)) = some (ks.map fun o => relD (num o), k) := fun ks h => by
    have := cmpO (cl := clN p (n + 2)) (k := k) (tb := tbX p) (n := 39) (sc := N_children_formulas.1.sc) (vs := [((⟨#[115, 105, 103, 110, 97, 116, 117, 114, 101, 115]⟩ : Str), false, .obj p.CS l), ((⟨#[111, 112, 101, 110, 101, 114]⟩ : Str), false, .obj p.CO lo), ((⟨#[110, 97, 109, 101]⟩ : Str), false, .str nm)]) (e := tuE (rE (stAt N_children_formulas.1.body 0))) D.str (fun _ => true) (fun o => relD (num o)) (xs := ks) fun o ho => ⟨stR, fun _ => ⟨false, stC (h o ho) stR⟩⟩
    rwa [List.filter_eq_self.mpr fun _ _ => rfl] at this
  have hk := hx _ hm
  unfold childL
  clear hm hx
  generalize kids R st nm = ks at hc hq hk ⊢
  generalize (R nm).whole = w at ha ⊢
  cases ks with
  | nil =>
    rw [if_neg fun h => h.2 rfl]
    cases w <;> exact fnR N_children_formulas.1 (stA h1 (stC hc (stS hk (stAn h2 3 (stC ha stR)))))
  | cons a ks =>
  cases ks with
  | nil =>
    cases w
    · rw [if_neg fun h => nomatch h.1]
      exact fnR N_children_formulas.1 (stA h1 (stC hc (stS hk (stAn h2 5 (stC ha stR)))))
    · have hu : clN p (n + 2) (⟨#[117, 110, 105, 116, 101, 100, 95, 105, 109, 112, 108, 105, 99, 105, 116]⟩ : Str) [.lst [relD (num a)]] k = some (relD (num a), k) := c_united (by decide)
      rw [if_pos ⟨rfl, List.cons_ne_nil _ _⟩]
      exact fnR N_children_formulas.1 (stA h1 (stC hc (stS hk (stAn h2 5 (stC ha (stC cn (stC hu stR)))))))
  | cons b ks =>
  cases ks with
  | nil =>
    cases w
    · rw [if_neg fun h => nomatch h.1]
      exact fnR N_children_formulas.1 (stA h1 (stC hc (stS hk (stAn h2 8 (stC ha stR)))))
    · have hu : clN p (n + 2) (⟨#[117, 110, 105, 116, 101, 100, 95, 105, 109, 112, 108, 105, 99, 105, 116]⟩ : Str) [.lst [relD (num a), relD (num b)]] k = some (unionD (relD (num a)) (relD (num b)), k) := c_united (Nat.le_of_ble_eq_true rfl)
      rw [if_pos ⟨rfl, List.cons_ne_nil _ _⟩]
      exact fnR N_children_formulas.1 (stA h1 (stC hc (stS hk (stAn h2 8 (stC ha (stC cn (stC hu stR)))))))
  | cons c ks =>
  cases ks with
  | cons _ _ => exact absurd hq (by simp)
  | nil =>
    cases w
    · rw [if_neg fun h => nomatch h.1]
      exact fnR N_children_formulas.1 (stA h1 (stC hc (stS hk (stAn h2 12 (stC ha stR)))))
    · have hu : clN p (n + 2) (⟨#[117, 110, 105, 116, 101, 100, 95, 105, 109, 112, 108, 105, 99, 105, 116]⟩ : Str) [.lst [relD (num a), relD (num b), relD (num c)]] k = some (unionD (unionD (relD (num a)) (relD (num b))) (relD (num c)), k) := c_united (Nat.le_of_ble_eq_true rfl)
      rw [if_pos ⟨rfl, List.cons_ne_nil _ _⟩]
      exact fnR N_children_formulas.1 (stA h1 (stC hc (stS hk (stAn h2 12 (stC ha (stC cn (stC hu stR)))))))
end
end Mine

-- C8
namespace Mine
section
variable {p : Par} {n k : Nat} {l lo E N : List (Str × D)} {names : List Str} {R : Str → Row} {num : Str → Int}
theorem opt1 {P : Prop} [Decidable P] {a : D} : (if P then [] else [a]).length ≤ 1 := by
  split
  · exact Nat.zero_le _
  · exact Nat.le_refl _
theorem opt2 {P : Prop} [Decidable P] {a : D} : (if P then [a] else []).length ≤ 1 := by
  split
  · exact Nat.le_refl _
  · exact Nat.zero_le _
theorem placeL_len {nm : Str} : (placeL R num nm).length ≤ 3 := by
  unfold placeL
  rw [List.length_append, List.length_append]
  exact Nat.add_le_add (Nat.add_le_add opt1 opt1) opt2
theorem noL_len : ∀ (l : List D), (noL l).length ≤ 3
  | [] => Nat.zero_le _
  | [_] => Nat.zero_le _
  | [_, _] => Nat.le_of_ble_eq_true rfl
  | [_, _, _] => Nat.le_refl _
  | _ :: _ :: _ :: _ :: _ => Nat.zero_le _
theorem childL_len {st : List Str} {nm : Str} : (childL R num st nm).length ≤ 4 := by
  unfold childL
  rw [List.length_append]
  exact Nat.add_le_add (noL_len _) opt2
noncomputable def forms (R : Str → Row) (num : Str → Int) (st : List Str) (nm : Str) : List D := placeL R num nm ++ childL R num st nm
theorem forms_len {st : List Str} {nm : Str} : (forms R num st nm).length ≤ 7 := by
  unfold forms
  rw [List.length_append]
  exact Nat.add_le_add placeL_len childL_len
noncomputable def impD (R : Str → Row) (num : Str → Int) (st : List Str) (nm : Str) : List D := if forms R num st nm = [] then [] else [.tup [.str ((⟨#[115, 105, 103, 32]⟩ : Str) ++ nm), joinedD (forms R num st nm)]]
structure ImpOk (names st ord : List Str) (R : Str → Row) : Prop where
  sti : ∀ o ∈ st, o ∈ names
  stl : st.length ≤ 20
  ori : ∀ o ∈ ord, o ∈ names
  orl : ord.length ≤ 20
  parts : ∀ o ∈ names, (R o).parts.length ≤ 2
  kidl : ∀ o ∈ names, (kids R st o).length ≤ 3
  aa : ∀ o ∈ names, ∃ f w, iter (aaStep R) 64 ([], dirOf (R o)) = some (f, w) ∧ f.length ≤ 50
  nl : ∀ o ∈ names, decide (((⟨#[115, 105, 103, 32]⟩ : Str)).length + o.length ≤ lim) = true
noncomputable def imV (p : Par) (l lo : List (Str × D)) (acc : List D) (X : Vars) : Vars := ((⟨#[115, 105, 103, 110, 97, 116, 117, 114, 101, 115]⟩ : Str), false, .obj p.CS l) :: ((⟨#[111, 112, 101, 110, 101, 114]⟩ : Str), false, .obj p.CO lo) :: ((⟨#[102, 111, 117, 110, 100]⟩ : Str), true, .lst acc) :: X
theorem c_implied (hl : SgOk l E) (ho : OpOk lo l N p) (H : EntOk names E R) (hN : NumOk names N num) {st ord : List Str} (J : ImpOk names st ord R) (hs : l.lookup (⟨#[115, 116, 97, 110, 100, 115]⟩ : Str) = some (.lst (st.map .str))) (hor : l.lookup (⟨#[111, 114, 100, 101, 114, 101, 100]⟩ : Str) = some (.lst (ord.map .str))) (hf : l.lookup (⟨#[111, 119, 110, 95, 102, 105, 101, 108, 100, 115]⟩ : Str) = some (.lst [])) : clN p (n + 6) (⟨#[105, 109, 112, 108, 105, 101, 100]⟩ : Str) [.obj p.CS l, .obj p.CO lo] k = some (.lst (ord.flatMap (impD R num st)), k) := by
  have h1 := hl.nom (⟨#[110, 97, 109, 101, 115]⟩ : Str) (by kernel_rfl)
  have h2 := hl.nom (⟨#[102, 105, 101, 108, 100, 115]⟩ : Str) (by kernel_rfl)
  have c1 : clN p (n + 5) (⟨#[83, 105, 103, 110, 97, 116, 117, 114, 101, 115, 46, 110, 97, 109, 101, 115]⟩ : Str) [.obj p.CS l] k = some (.lst (ord.map .str), k) := c_names hor J.orl
  have c2 : clN p (n + 5) (⟨#[83, 105, 103, 110, 97, 116, 117, 114, 101, 115, 46, 102, 105, 101, 108, 100, 115]⟩ : Str) [.obj p.CS l] k = some (.lst [], k) := c_fields hf
  refine fnB N_implied.1 [((⟨#[115, 105, 103, 110, 97, 116, 117, 114, 101, 115]⟩ : Str), false, .obj p.CS l), ((⟨#[111, 112, 101, 110, 101, 114]⟩ : Str), false, .obj p.CO lo)] (sq (vs' := imV p l lo [] []) (k' := k) stR (sqF (k' := k) (l := ord.map .str) (stA h1 (stC c1 stR)) (limS J.orl) ?_))
  refine for_then (fun rem vs k' => k' = k ∧ ∃ (os : List Str) (acc : List D) (X : Vars), vs = imV p l lo acc X ∧ (X = [] ∨ ∃ a b, X = [((⟨#[110, 97, 109, 101]⟩ : Str), false, a), ((⟨#[102, 111, 114, 109, 117, 108, 97, 115]⟩ : Str), false, b)]) ∧ rem = os.map .str ∧ (∀ o ∈ os, o ∈ names) ∧ acc.length + os.length ≤ 20 ∧ acc ++ os.flatMap (impD R num st) = ord.flatMap (impD R num st)) (P := fun o => o = _) ?_ ?_ ⟨rfl, ord, [], [], rfl, .inl rfl, rfl, J.ori, by rw [List.length_nil, Nat.zero_add]; exact J.orl, rfl⟩
  · rintro d rem vs k' ⟨rfl, os, acc, X, rfl, hX, e, hos, hol, i5⟩
    cases os with
    | nil => cases e
    | cons nm os =>
      cases e
      have hnm := hos nm List.mem_cons_self
      have c3 : clN p (n + 5) (⟨#[112, 108, 97, 99, 101, 95, 102, 111, 114, 109, 117, 108, 97, 115]⟩ : Str) [.obj p.CS l, .obj p.CO lo, .str nm] k' = some (.lst (placeL R num nm), k') := c_place hl ho H hN hnm (J.parts nm hnm)
      have c4 : clN p (n + 5) (⟨#[99, 104, 105, 108, 100, 114, 101, 110, 95, 102, 111, 114, 109, 117, 108, 97, 115]⟩ : Str) [.obj p.CS l, .obj p.CO lo, .str nm] k' = some (.lst (childL R num st nm), k') := c_children_formulas hl ho H hN hs J.sti J.stl hnm (J.kidl nm hnm)
      have c5 : clN p (n + 5) (⟨#[102, 97, 99, 116, 95, 102, 111, 114, 109, 117, 108, 97, 115]⟩ : Str) [.obj p.CS l, .obj p.CO lo, .str nm] k' = some (.lst [], k') := by
        obtain ⟨f, w, hi, hfl⟩ := J.aa nm hnm
        exact c_fact_formulas hl ho H hf hnm (Nat.le_refl _) hi hfl
      have ef : forms R num st nm ++ [] = forms R num st nm := List.append_nil _
      have z1 : decide ((placeL R num nm).length + (childL R num st nm).length ≤ lim) = true := limN (Nat.add_le_add placeL_len childL_len) rfl
      have z2 : decide ((forms R num st nm).length + 0 ≤ lim) = true := limN forms_len rfl
      have z3 : decide ((forms R num st nm ++ []).length ≤ lim) = true := by rw [ef]; exact limN forms_len rfl
      rw [List.flatMap_cons] at i5
      rw [List.length_cons] at hol
      by_cases q : forms R num st nm = []
      · have z4 : decide ((0 : Int) < ((forms R num st nm ++ []).length : Nat)) = false := by rw [q]; rfl
        have e0 : impD R num st nm = [] := if_pos q
        rw [e0] at i5
        refine ⟨.nxt, imV p l lo acc [((⟨#[110, 97, 109, 101]⟩ : Str), false, .str nm), ((⟨#[102, 111, 114, 109, 117, 108, 97, 115]⟩ : Str), false, .lst (forms R num st nm ++ []))], k', ?_, .inl rfl, rfl, os, acc, _, rfl, .inr ⟨_, _, rfl⟩, rfl, fun o h => hos o (List.mem_cons_of_mem _ h), Nat.le_of_succ_le hol, i5⟩
        rcases hX with rfl | ⟨a, b, rfl⟩ <;> exact stC c3 (stC c4 (stA z1 (stC c5 (stA z2 (stA z3 (stB z4 stR))))))
      · have z4 : decide ((0 : Int) < ((forms R num st nm ++ []).length : Nat)) = true := by rw [ef]; exact decide_eq_true (Int.ofNat_lt.mpr (List.length_pos_iff.mpr q))
        have c7 : clN p (n + 5) (⟨#[106, 111, 105, 110, 101, 100]⟩ : Str) [.lst (forms R num st nm ++ [])] k' = some (joinedD (forms R num st nm), k') := by rw [ef]; exact c_joined (Nat.le_trans forms_len (Nat.le_of_ble_eq_true rfl))
        have z5 : decide (acc.length ≤ lim) = true := limN (m := 20) (Nat.le_trans (Nat.le_add_right _ _) hol) rfl
        have e0 : impD R num st nm = [.tup [.str ((⟨#[115, 105, 103, 32]⟩ : Str) ++ nm), joinedD (forms R num st nm)]] := if_neg q
        rw [e0, ← List.append_assoc] at i5
        refine ⟨.nxt, imV p l lo (acc ++ [.tup [.str ((⟨#[115, 105, 103, 32]⟩ : Str) ++ nm), joinedD (forms R num st nm)]]) [((⟨#[110, 97, 109, 101]⟩ : Str), false, .str nm), ((⟨#[102, 111, 114, 109, 117, 108, 97, 115]⟩ : Str), false, .lst (forms R num st nm ++ []))], k', ?_, .inl rfl, rfl, os, _, _, rfl, .inr ⟨_, _, rfl⟩, rfl, fun o h => hos o (List.mem_cons_of_mem _ h), by rw [List.length_append, Nat.add_assoc, Nat.add_comm _ os.length]; exact hol, i5⟩
        rcases hX with rfl | ⟨a, b, rfl⟩ <;> exact stC c3 (stC c4 (stA z1 (stC c5 (stA z2 (stA z3 (stB z4 (stA z5 (stA (J.nl nm hnm) (stC c7 stR)))))))))
  · rintro vs k' ⟨rfl, os, acc, X, rfl, hX, e, hos, hol, i5⟩
    cases os with
    | cons a b => cases e
    | nil =>
      have i5 : acc ++ [] = _ := i5
      rw [← i5, List.append_nil]
      rcases hX with rfl | ⟨a, b, rfl⟩ <;> exact stA h2 (stC c2 stR)
end
end Mine

-- C9
namespace Mine
section
variable {p : Par} {n k : Nat} {P : List (Str × D)} {names : List Str} {R : Str → Row} {num : Str → Int}
noncomputable def rowD (r : Row) : D := .lst [.str r.par, .tup (r.parts.map .str), .bool r.whole, .str r.mark]
structure PlanOk (names : List Str) (P : List (Str × D)) (R : Str → Row) : Prop where
  e : ∀ nm ∈ names, P.lookup nm = some (rowD (R nm)) ∧ (R nm).parts.length ≤ 4
  cl : ∀ nm ∈ names, ∀ o ∈ dirOf (R nm), o ∈ names
  one : ∀ nm ∈ names, (R nm).par = (⟨#[]⟩ : Str) ∨ (R nm).parts = []
theorem c_above (H : PlanOk names P R) {nm : Str} (h : nm ∈ names) : clN p (n + 1) (⟨#[95, 108, 97, 119, 95, 97, 98, 111, 118, 101]⟩ : Str) [.dct P, .str nm] k = some (.tup ((dirOf (R nm)).map .str), k) := by
  have e : subF (tbX p) k (.dct P) (.str nm) = some (rowD (R nm)) := (H.e nm h).1
  unfold dirOf
  by_cases q : (R nm).par = (⟨#[]⟩ : Str)
  · have q' : ((R nm).par == (⟨#[]⟩ : Str)) = true := by rw [q]; rfl
    rw [if_pos q]
    exact fnR N_law_above.1 (stL e (stB q' (stL e stR)))
  · have q' : ((R nm).par == (⟨#[]⟩ : Str)) = false := by simpa using q
    rw [if_neg q, (H.one nm h).resolve_left q]
    exact fnR N_law_above.1 (stL e (stB q' (stL e stR)))
theorem c_below (H : PlanOk names P R) {st : List Str} (hst : ∀ o ∈ st, o ∈ names) (hn : st.length ≤ 20) {nm : Str} : clN p (n + 1) (⟨#[95, 108, 97, 119, 95, 98, 101, 108, 111, 119]⟩ : Str) [.dct P, .lst (st.map .str), .str nm] k = some (.lst ((kids R st nm).map .str), k) := by
  refine fnR N_law_below.1 (stA (limS hn) (stS (o := compOf (tbX p) 39 N_law_below.1.sc [((⟨#[112, 108, 97, 110]⟩ : Str), false, .dct P), ((⟨#[115, 116, 97, 110, 100, 115]⟩ : Str), false, .lst (st.map .str)), ((⟨#[108, 97, 98, 101, 108]⟩ : Str), false, .str nm)] k (rE (stAt N_law_below.1.body 0)) (st.map .str)) (cmpO .str (fun o => (R o).par == nm) .str fun o ho => ?_) stR))
  have e : subF (tbX p) k (.dct P) (.str o) = some (rowD (R o)) := (H.e o (hst o ho)).1
  exact ⟨stL e stR, fun _ => ⟨false, stR⟩⟩
theorem c_sorted (H : PlanOk names P R) {st : List Str} (hst : ∀ o ∈ st, o ∈ names) (hn : st.length ≤ 20) {f w : List Str} {m : Nat} (hm : m ≤ 64) (hi : iter (pfStep R) m ([], st) = some (f, w)) : clN p (n + 2) (⟨#[95, 108, 97, 119, 95, 115, 111, 114, 116, 101, 100]⟩ : Str) [.dct P, .lst (st.map .str)] k = some (.lst (f.map .str), k) := by
  refine fnB N_law_sorted.1 [((⟨#[112, 108, 97, 110]⟩ : Str), false, .dct P), ((⟨#[115, 116, 97, 110, 100, 115]⟩ : Str), false, .lst (st.map .str))] (sq (vs' := [((⟨#[112, 108, 97, 110]⟩ : Str), false, .dct P), ((⟨#[115, 116, 97, 110, 100, 115]⟩ : Str), false, .lst (st.map .str)), ((⟨#[102, 111, 117, 110, 100]⟩ : Str), true, .lst []), ((⟨#[108, 101, 102, 116]⟩ : Str), true, .lst (st.map .str))]) (k' := k) (stA (limS hn) stR) (sqW ?_))
  refine wh_then (fun s vs k' => k' = k ∧ (∀ o ∈ s.2, o ∈ names) ∧ ∃ X, vs = ((⟨#[112, 108, 97, 110]⟩ : Str), false, .dct P) :: ((⟨#[115, 116, 97, 110, 100, 115]⟩ : Str), false, .lst (st.map .str)) :: ((⟨#[102, 111, 117, 110, 100]⟩ : Str), true, .lst (s.1.map .str)) :: ((⟨#[108, 101, 102, 116]⟩ : Str), true, .lst (s.2.map .str)) :: X ∧ (X = [] ∨ ∃ d, X = [((⟨#[97, 98, 108, 101]⟩ : Str), false, d)])) (pfStep R) (P := fun o => o = _) ?_ ?_ hi hm ⟨rfl, hst, [], rfl, .inl rfl⟩
  · rintro ⟨f, w⟩ vs k' ⟨rfl, i0, X, rfl, hX⟩
    unfold pfStep
    dsimp only at i0 ⊢
    by_cases hw : w = []
    · subst hw
      rw [if_pos rfl]
      rcases hX with rfl | ⟨d, rfl⟩ <;> exact stR
    · rw [if_neg hw]
      by_cases hb : f.length ≤ 20 ∧ w.length ≤ 20
      · rw [if_pos hb]
        have hc : ∀ X, X = [] ∨ (∃ d, X = [((⟨#[97, 98, 108, 101]⟩ : Str), false, d)]) → (compOf (tbX p) 39 N_law_sorted.1.sc (((⟨#[112, 108, 97, 110]⟩ : Str), false, .dct P) :: ((⟨#[115, 116, 97, 110, 100, 115]⟩ : Str), false, .lst (st.map .str)) :: ((⟨#[102, 111, 117, 110, 100]⟩ : Str), true, .lst (f.map .str)) :: ((⟨#[108, 101, 102, 116]⟩ : Str), true, .lst (w.map .str)) :: X) k' (rE (stAt (fB (stAt N_law_sorted.1.body 1)) 0)) (w.map .str)).run (clN p (n + 1)) = some ((w.filter fun nm => ((dirOf (R nm)).filter fun o => !(f.any (· == o))).isEmpty).map .str, k') := by
          intro X hX
          refine cmpO .str _ .str fun o ho => ⟨?_, fun _ => ⟨false, stR⟩⟩
          have hd : decide (((dirOf (R o)).map D.str).length ≤ lim) = true := limD (m := 5) (by rw [List.length_map]; exact dirOf_len (H.e o (i0 o ho)).2) rfl
          refine stC (c_above (n := n) (k := k') H (i0 o ho)) (stA hd (stS (o := compOf (tbX p) 37 (relab N_law_sorted.1.sc (cpOf (rE (stAt (fB (stAt N_law_sorted.1.body 1)) 0))).2.2) (((⟨#[111, 110, 101]⟩ : Str), false, .str o) :: ((⟨#[112, 108, 97, 110]⟩ : Str), false, .dct P) :: ((⟨#[115, 116, 97, 110, 100, 115]⟩ : Str), false, .lst (st.map .str)) :: ((⟨#[102, 111, 117, 110, 100]⟩ : Str), true, .lst (f.map .str)) :: ((⟨#[108, 101, 102, 116]⟩ : Str), true, .lst (w.map .str)) :: X) k' (lE ((cpIfs (rE (stAt (fB (stAt N_law_sorted.1.body 1)) 0))).headD (.Name ⟨#[]⟩ ⟨0, 0, 0, 0⟩))) ((dirOf (R o)).map .str))
            (cmpO .str (fun o => !(f.any (· == o))) .str fun o' ho' => ⟨stO (notIn o' f) stR, fun _ => ⟨false, stR⟩⟩) (stO (eqNil ((dirOf (R o)).filter fun o => !(f.any (· == o)))) stR)))
        cases ha : w.filter fun nm => ((dirOf (R nm)).filter fun o => !(f.any (· == o))).isEmpty with
        | nil => exact True.intro
        | cons a r =>
          have ham : a ∈ w := (List.mem_filter.mp (ha ▸ List.mem_cons_self : a ∈ w.filter _)).1
          rw [ha] at hc
          have hne : (!w.isEmpty) = true := by rw [Bool.not_eq_true', List.isEmpty_eq_false_iff]; exact hw
          refine ⟨k', ?_, .nxt, [((⟨#[112, 108, 97, 110]⟩ : Str), false, .dct P), ((⟨#[115, 116, 97, 110, 100, 115]⟩ : Str), false, .lst (st.map .str)), ((⟨#[102, 111, 117, 110, 100]⟩ : Str), true, .lst ((f ++ [a]).map .str)), ((⟨#[108, 101, 102, 116]⟩ : Str), true, .lst ((w.erase a).map .str)), ((⟨#[97, 98, 108, 101]⟩ : Str), false, .lst ((a :: r).map .str))], k', ?_, .inl rfl, rfl, fun o ho => i0 o (List.mem_of_mem_erase ho), _, rfl, .inr ⟨_, rfl⟩⟩
          · rcases hX with rfl | ⟨d, rfl⟩ <;> exact runE hne (stO (neNil w) stR)
          · rw [List.map_append]
            rcases hX with rfl | ⟨d, rfl⟩
            · exact stA (limS hb.2) (stS (hc _ (.inl rfl)) (stA (limS hb.1) (stA (limS hb.2) (stO (remE ham) stR))))
            · exact stA (limS hb.2) (stS (hc _ (.inr ⟨d, rfl⟩)) (stA (limS hb.1) (stA (limS hb.2) (stO (remE ham) stR))))
      · rw [if_neg hb]; exact True.intro
  · rintro vs k' ⟨rfl, i0, X, rfl, hX⟩
    rcases hX with rfl | ⟨d, rfl⟩ <;> exact stR
end
end Mine

-- C10
namespace Mine
inductive Ex where
  | rel (i : Nat)
  | un (a b : Ex)
  | me (a b : Ex)
noncomputable def Ex.toD : Ex → D
  | .rel i => relD (i : Int)
  | .un a b => unionD a.toD b.toD
  | .me a b => .tup [.str (⟨#[109, 101, 101, 116]⟩ : Str), a.toD, b.toD]
noncomputable def Ex.depth : Ex → Nat
  | .rel _ => 1
  | .un a b => max a.depth b.depth + 1
  | .me a b => max a.depth b.depth + 1
noncomputable def Ex.val (ms : List Int) : Ex → Int
  | .rel i => ms.getD i 0
  | .un a b => Builtin.bitOr (a.val ms) (b.val ms)
  | .me a b => Builtin.bitAnd (a.val ms) (b.val ms)
noncomputable def Ex.wf (m : Nat) : Ex → Prop
  | .rel i => i < m
  | .un a b => a.wf m ∧ b.wf m
  | .me a b => a.wf m ∧ b.wf m
section
variable {p : Par} {n k : Nat} {P : List (Str × D)} {names : List Str} {R : Str → Row} {num : Str → Int} {ms : List Int}
theorem c_mask (hms : ms.length ≤ 20) : ∀ (e : Ex) (n : Nat), e.depth ≤ n → e.wf ms.length → clN p n (⟨#[95, 108, 97, 119, 95, 109, 97, 115, 107]⟩ : Str) [e.toD, .lst (ms.map .int)] k = some (.int (e.val ms), k)
  | .rel _, 0, h, _ => absurd h (Nat.not_succ_le_zero _)
  | .un _ _, 0, h, _ => absurd h (Nat.not_succ_le_zero _)
  | .me _ _, 0, h, _ => absurd h (Nat.not_succ_le_zero _)
  | .rel i, n + 1, h, hw => by
    have hw : i < ms.length := hw
    have e : subF (tbX p) k (.lst (ms.map .int)) (.int (i : Int)) = some (.int (ms.getD i 0)) := by
      show (if (0 : Int) ≤ (i : Int) then (if (i : Int) < 4096 then (ms.map D.int)[(i : Int).toNat]? else none) else if (i : Int) = -1 then (ms.map D.int).getLast? else none) = _
      rw [if_pos (Int.natCast_nonneg i), if_pos (show (i : Int) < 4096 from Int.ofNat_lt.mpr (Nat.lt_of_lt_of_le hw (Nat.le_trans hms (Nat.le_of_ble_eq_true (m := 4096) rfl)))), Int.toNat_natCast, List.getElem?_map, List.getElem?_eq_getElem hw, List.getD_eq_getElem?_getD, List.getElem?_eq_getElem hw]
      rfl
    exact fnR N_law_mask.1 (stLn e 2 stR)
  | .un a b, n + 1, h, hw => fnR N_law_mask.1 (stC (c_mask hms a n (Nat.le_trans (Nat.le_max_left _ _) (Nat.le_of_succ_le_succ h)) hw.1) (stC (c_mask hms b n (Nat.le_trans (Nat.le_max_right _ _) (Nat.le_of_succ_le_succ h)) hw.2) stR))
  | .me a b, n + 1, h, hw => fnR N_law_mask.1 (stC (c_mask hms a n (Nat.le_trans (Nat.le_max_left _ _) (Nat.le_of_succ_le_succ h)) hw.1) (stC (c_mask hms b n (Nat.le_trans (Nat.le_max_right _ _) (Nat.le_of_succ_le_succ h)) hw.2) stR))
inductive Fm where
  | inn (a b : Ex)
  | so (m : Str) (a : Ex)
noncomputable def Fm.toD : Fm → D
  | .inn a b => inF a.toD b.toD
  | .so m a => .tup [.str m, a.toD]
noncomputable def Fm.holds (ms : List Int) : Fm → Bool
  | .inn a b => Builtin.bitAnd (a.val ms) (b.val ms) == a.val ms
  | .so m a => isSoB m (a.val ms)
noncomputable def Fm.wf (m : Nat) : Fm → Prop
  | .inn a b => a.wf m ∧ b.wf m ∧ a.depth ≤ 4 ∧ b.depth ≤ 4
  | .so s a => a.wf m ∧ a.depth ≤ 4 ∧ (s == (⟨#[97, 110, 100]⟩ : Str)) = false ∧ (s == (⟨#[105, 110]⟩ : Str)) = false
theorem c_holds1 (hms : ms.length ≤ 20) (f : Fm) (hw : f.wf ms.length) : clN p (n + 5) (⟨#[95, 108, 97, 119, 95, 104, 111, 108, 100, 115]⟩ : Str) [f.toD, .lst (ms.map .int)] k = some (.bool (f.holds ms), k) := by
  cases f with
  | inn a b =>
    have ha := c_mask (p := p) (k := k) hms a (n + 4) (Nat.le_trans hw.2.2.1 (Nat.le_add_left _ _)) hw.1
    have hb := c_mask (p := p) (k := k) hms b (n + 4) (Nat.le_trans hw.2.2.2 (Nat.le_add_left _ _)) hw.2.1
    exact fnR N_law_holds.1 (stC ha (stC hb stR))
  | so s a =>
    have ha := c_mask (p := p) (k := k) hms a (n + 4) (Nat.le_trans hw.2.1 (Nat.le_add_left _ _)) hw.1
    have hs : clN p (n + 4) (⟨#[95, 108, 97, 119, 95, 105, 115, 95, 115, 111]⟩ : Str) [.str s, .int (a.val ms)] k = some (.bool (isSoB s (a.val ms)), k) := c_is_so
    exact fnR N_law_holds.1 (stB hw.2.2.1 (stB hw.2.2.2 (stC ha (stC hs stR))))
theorem abMap : ∀ (xs : List Bool), allBool (xs.map .bool) = some xs
  | [] => rfl
  | x :: r => by
    show (allBool (r.map .bool)).map (x :: ·) = _
    rw [abMap r]; rfl
theorem noFalse {α : Type} (f : α → Bool) (xs : List α) : (cmpD .NotIn (.bool false) (.lst (xs.map fun x => .bool (f x)))).map D.bool = some (.bool (xs.all f)) := by
  have e : (xs.map fun x => D.bool (f x)) = (xs.map f).map .bool := by rw [List.map_map]; rfl
  show (((allBool (xs.map fun x => .bool (f x))).map fun ys => ys.any (· == false)).map (!·)).map D.bool = _
  rw [e, abMap, List.all_eq_not_any_not]
  show some (D.bool (!((xs.map f).any (· == false)))) = _
  rw [List.any_map]
  congr 4
  funext x
  show (f x == false) = !f x
  cases f x <;> rfl
theorem c_holds (hms : ms.length ≤ 20) (fs : List Fm) (hl : fs.length ≤ 20) (hw : ∀ f ∈ fs, f.wf ms.length) : clN p (n + 6) (⟨#[95, 108, 97, 119, 95, 104, 111, 108, 100, 115]⟩ : Str) [joinedD (fs.map Fm.toD), .lst (ms.map .int)] k = some (.bool (fs.all (Fm.holds ms)), k) := by
  have many : clN p (n + 6) (⟨#[95, 108, 97, 119, 95, 104, 111, 108, 100, 115]⟩ : Str) [.tup [.str (⟨#[97, 110, 100]⟩ : Str), .tup (fs.map Fm.toD)], .lst (ms.map .int)] k = some (.bool (fs.all (Fm.holds ms)), k) := by
    have hc := cmpO (cl := clN p (n + 5)) (k := k) (tb := tbX p) (n := 38) (sc := N_law_holds.1.sc) (vs := [((⟨#[102, 111, 114, 109, 117, 108, 97]⟩ : Str), false, .tup [.str (⟨#[97, 110, 100]⟩ : Str), .tup (fs.map Fm.toD)]), ((⟨#[109, 97, 115, 107, 115]⟩ : Str), false, .lst (ms.map .int))]) (e := aE (rE (stAt (iB (stAt N_law_holds.1.body 0)) 0))) Fm.toD (fun _ => true) (fun f => .bool (f.holds ms)) (xs := fs) fun f hf => ⟨stR, fun _ => ⟨false, stC (c_holds1 (n := n) (k := k) hms f (hw f hf)) stR⟩⟩
    rw [List.filter_eq_self.mpr fun _ _ => rfl] at hc
    exact fnR N_law_holds.1 (stA (lim20 (f := Fm.toD) hl) (stS hc (stO (noFalse (Fm.holds ms) fs) stR)))
  cases fs with
  | nil => exact many
  | cons f r =>
    cases r with
    | nil =>
      have := c_holds1 (p := p) (n := n + 1) (k := k) hms f (hw f List.mem_cons_self)
      show clN p (n + 6) _ _ _ = some (.bool (f.holds ms && true), k)
      rw [Bool.and_true]
      exact this
    | cons g r => exact many
end
end Mine

-- C11
namespace Mine
section
variable {p : Par} {n k : Nat} {P : List (Str × D)} {names : List Str} {R : Str → Row}
/-- what lies outside the uppers -/
noncomputable def outB (own : Int) : List Int → Bool
  | [] => false
  | [a] => !(Builtin.bitAnd (Builtin.bitAnd own (Builtin.bitNot a)) (Builtin.bitNot a) == 0)
  | [a, b] => !(Builtin.bitAnd (Builtin.bitAnd own (Builtin.bitNot a)) (Builtin.bitNot b) == 0)
  | _ => false
/-- the whole of those below, if they are apart -/
noncomputable def wholeSt (w m : Int) : D ⊕ Int := if (!(Builtin.bitAnd w m == 0)) = true then .inl (.bool false) else .inr (Builtin.bitOr w m)
noncomputable def isDueB (r : Row) (own : Int) (us ls : List Int) : Bool :=
  if (outB own us || !isSoB r.mark own) = true then false else match foldR wholeSt ls 0 with
    | .inl _ => false
    | .inr w => !r.whole || (ls.isEmpty || Builtin.bitAnd own (Builtin.bitNot w) == 0)
theorem wholeSt_inl {d : D} : ∀ {ls : List Int} {w : Int}, foldR wholeSt ls w = .inl d → d = .bool false
  | [], w, h => by cases h
  | m :: r, w, h => by
    unfold foldR wholeSt at h
    by_cases q : (!(Builtin.bitAnd w m == 0)) = true
    · rw [if_pos q] at h; cases h; rfl
    · rw [if_neg q] at h; exact wholeSt_inl h
noncomputable def isV (P : List (Str × D)) (nm : Str) (own : Int) (us ls : List Int) (X : Vars) : Vars := ((⟨#[112, 108, 97, 110]⟩ : Str), false, .dct P) :: ((⟨#[108, 97, 98, 101, 108]⟩ : Str), false, .str nm) :: ((⟨#[111, 119, 110]⟩ : Str), false, .int own) :: ((⟨#[117, 112, 112, 101, 114, 115]⟩ : Str), false, .lst (us.map .int)) :: ((⟨#[108, 111, 119, 101, 114, 115]⟩ : Str), false, .lst (ls.map .int)) :: X
theorem c_is_due (H : PlanOk names P R) {nm : Str} (h : nm ∈ names) {own : Int} {us ls : List Int} (hu : us.length ≤ 2) (hl : ls.length ≤ 20) : clN p (n + 3) (⟨#[95, 108, 97, 119, 95, 105, 115, 95, 100, 117, 101]⟩ : Str) [.dct P, .str nm, .int own, .lst (us.map .int), .lst (ls.map .int)] k = some (.bool (isDueB (R nm) own us ls), k) := by
  have e : subF (tbX p) k (.dct P) (.str nm) = some (rowD (R nm)) := (H.e nm h).1
  have hs : clN p (n + 2) (⟨#[95, 108, 97, 119, 95, 105, 115, 95, 115, 111]⟩ : Str) [.str (R nm).mark, .int own] k = some (.bool (isSoB (R nm).mark own), k) := c_is_so
  unfold isDueB
  cases q1 : outB own us with
  | true =>
    rw [if_pos (show (true || !isSoB (R nm).mark own) = true from rfl)]
    cases us with
    | nil => cases q1
    | cons a us =>
      cases us with
      | nil => exact fnR N_law_is_due.1 (stBn q1 1 stR)
      | cons b us =>
        cases us with
        | nil => exact fnR N_law_is_due.1 (stBn q1 1 stR)
        | cons _ _ => exact absurd hu (by simp)
  | false =>
  cases q2 : isSoB (R nm).mark own with
  | false =>
    rw [q2] at hs
    rw [if_pos (show (false || !false) = true from rfl)]
    cases us with
    | nil => exact fnR N_law_is_due.1 (stL e (stC hs stR))
    | cons a us =>
      cases us with
      | nil => exact fnR N_law_is_due.1 (stBn q1 1 (stL e (stC hs stR)))
      | cons b us =>
        cases us with
        | nil => exact fnR N_law_is_due.1 (stBn q1 1 (stL e (stC hs stR)))
        | cons _ _ => exact absurd hu (by simp)
  | true =>
    rw [q2] at hs
    rw [if_neg (by decide)]
    have f0 : (evS (tbX p) N_law_is_due.1.sc 20 (stAt N_law_is_due.1.body 0) (isV P nm own us ls []) k).run (clN p (n + 2)) = some (.nxt, isV P nm own us ls [], k) := by
      cases us with
      | nil => exact stL e (stC hs stR)
      | cons a us =>
        cases us with
        | nil => exact stBn q1 1 (stL e (stC hs stR))
        | cons b us =>
          cases us with
          | nil => exact stBn q1 1 (stL e (stC hs stR))
          | cons _ _ => exact absurd hu (by simp)
    refine fnB N_law_is_due.1 (isV P nm own us ls []) (sq f0 (sq (vs' := isV P nm own us ls [((⟨#[119, 104, 111, 108, 101]⟩ : Str), false, .int 0)]) (k' := k) stR (sqF (k' := k) (l := ls.map .int) stR (lim20 hl) ?_)))
    refine for_fold D.int (fun w vs k' => k' = k ∧ ∃ X, vs = isV P nm own us ls (((⟨#[119, 104, 111, 108, 101]⟩ : Str), false, .int w) :: X) ∧ (X = [] ∨ ∃ m, X = [((⟨#[109, 97, 115, 107]⟩ : Str), false, .int m)])) wholeSt k (P := fun o => o = _) ?_ (xs := ls) (s := 0) ⟨rfl, [], rfl, .inl rfl⟩ ?_ ?_
    · rintro w m vs k' ⟨rfl, X, rfl, hX⟩
      unfold wholeSt
      cases q : !(Builtin.bitAnd w m == 0) with
      | true =>
        refine ⟨freezeAll (isV P nm own us ls [((⟨#[119, 104, 111, 108, 101]⟩ : Str), false, .int w), ((⟨#[109, 97, 115, 107]⟩ : Str), false, .int m)]), ?_⟩
        rcases hX with rfl | ⟨m', rfl⟩ <;> exact stB q stR
      | false =>
        refine ⟨.nxt, isV P nm own us ls [((⟨#[119, 104, 111, 108, 101]⟩ : Str), false, .int (Builtin.bitOr w m)), ((⟨#[109, 97, 115, 107]⟩ : Str), false, .int m)], k', ?_, .inl rfl, rfl, _, rfl, .inr ⟨m, rfl⟩⟩
        rcases hX with rfl | ⟨m', rfl⟩ <;> exact stB q stR
    · intro d vs q
      rw [q, wholeSt_inl q]
      rfl
    · rintro w vs k' q ⟨rfl, X, rfl, hX⟩
      rw [q]
      unfold rowD at e
      generalize (R nm).whole = z at e ⊢
      rcases hX with rfl | ⟨m, rfl⟩ <;> cases z
      · exact stL e stR
      · exact stL e (stO (eqNilG D.int ls) (by cases ls <;> exact stR))
      · exact stL e stR
      · exact stL e (stO (eqNilG D.int ls) (by cases ls <;> exact stR))
end
end Mine

-- C12
namespace Mine
section
variable {p : Par} {n k : Nat} {P N : List (Str × D)} {names : List Str} {R : Str → Row} {num : Str → Int}
noncomputable def bitsOf (m : Nat) : Int := if 1 < m then 2 else 3
noncomputable def tf (B : Int) (c i : Nat) : Int := Builtin.bitAnd ((c : Int).fdiv (2 ^ (B * (i : Int)).toNat)) (1 * 2 ^ B.toNat - 1)
noncomputable def toldOf (m c : Nat) : List Int := (List.range m).map (tf (bitsOf m) c)
noncomputable def masksOf (num : Str → Int) (S : List Str) (T : List Int) : List Int := (List.range S.length).foldl (fun s i => s.set (num (S.getD i (⟨#[]⟩ : Str))).toNat (T.getD i 0)) [0, 0, 0, 0]
noncomputable def codes (m : Nat) : Nat := ((1 : Int) * 2 ^ (bitsOf m * (m : Int)).toNat).toNat
theorem nm1 : ∀ m, m ≤ 4 → decide ((0 : Int) ≤ 1 * 2 ^ (bitsOf m * (m : Int)).toNat ∧ (1 : Int) * 2 ^ (bitsOf m * (m : Int)).toNat ≤ 4096) = true := by decide
theorem nm2 : ∀ m, m ≤ 4 → (small 1 && decide (0 ≤ bitsOf m * (m : Int)) && decide (bitsOf m * (m : Int) ≤ 64)) = true := by decide
theorem nm3 : ∀ m, m ≤ 4 → (small 1 && decide (0 ≤ bitsOf m) && decide (bitsOf m ≤ 64)) = true := by decide
theorem nm4 : ∀ m, m ≤ 4 → (small (bitsOf m) && small (m : Int)) = true := by decide
theorem nm5 : ∀ m, m ≤ 4 → ∀ i, i < m → (small (bitsOf m) && small (i : Int)) = true ∧ decide (0 ≤ bitsOf m * (i : Int)) = true := by decide
theorem nm6 : ∀ m : Nat, m ≤ 4 → decide ((0 : Int) ≤ (m : Int) ∧ (m : Int) ≤ 4096) = true := by decide
theorem nm7 : ∀ m, m ≤ 4 → decide ((rangeD (codes m)).length ≤ lim) = true := by
  intro m h
  unfold rangeD codes
  rw [List.length_map, List.length_range]
  revert m
  decide
theorem nm8 : ∀ m, m ≤ 4 → decide ((rangeD m).length ≤ lim) = true := by
  intro m h
  unfold rangeD
  rw [List.length_map, List.length_range]
  exact limN h rfl
noncomputable def lbV (P N : List (Str × D)) (st : List Str) (nm : Str) (fD : D) (us ls S : List D) (B : Int) (X : Vars) : Vars := ((⟨#[112, 108, 97, 110]⟩ : Str), false, .dct P) :: ((⟨#[115, 116, 97, 110, 100, 115]⟩ : Str), false, .lst (st.map .str)) :: ((⟨#[108, 97, 98, 101, 108]⟩ : Str), false, .str nm) :: ((⟨#[102, 111, 114, 109, 117, 108, 97]⟩ : Str), false, fD) :: ((⟨#[115, 112, 111, 116, 115]⟩ : Str), false, .dct N) :: ((⟨#[117, 112, 112, 101, 114, 115]⟩ : Str), false, .tup us) :: ((⟨#[108, 111, 119, 101, 114, 115]⟩ : Str), false, .lst ls) :: ((⟨#[115, 111, 109, 101]⟩ : Str), false, .lst S) :: ((⟨#[98, 105, 116, 115]⟩ : Str), false, .int B) :: X
/-- what the last turn left -/
noncomputable def LX (X : Vars) : Prop := X = [] ∨ ∃ a b c d, ∃ o : Bool, X = [((⟨#[99, 111, 100, 101]⟩ : Str), false, a), ((⟨#[116, 111, 108, 100]⟩ : Str), false, b), ((⟨#[109, 97, 115, 107, 115]⟩ : Str), o, c)] ∨ X = [((⟨#[99, 111, 100, 101]⟩ : Str), false, a), ((⟨#[116, 111, 108, 100]⟩ : Str), false, b), ((⟨#[109, 97, 115, 107, 115]⟩ : Str), o, c), ((⟨#[107]⟩ : Str), false, d)]
noncomputable abbrev lrB : List Stmt := fB (stAt N_law_is_label_right.1.body 3)
theorem c_label_right (H : PlanOk names P R) (hN : NumOk names N num) {st : List Str} (hst : ∀ o ∈ st, o ∈ names) (hn : st.length ≤ 20) {nm : Str} (h : nm ∈ names) (hS : (nm :: (dirOf (R nm) ++ kids R st nm)).length ≤ 4) (hu : (dirOf (R nm)).length ≤ 2) (hnum : ∀ o ∈ names, 0 ≤ num o ∧ num o < 4)
    {fs : List Fm} (hfl : fs.length ≤ 20) (hfw : ∀ f ∈ fs, f.wf 4)
    (hR : ∀ c, c < codes (nm :: (dirOf (R nm) ++ kids R st nm)).length → let T := toldOf (nm :: (dirOf (R nm) ++ kids R st nm)).length c
      T.getD 0 0 ≠ 2 → fs.all (Fm.holds (masksOf num (nm :: (dirOf (R nm) ++ kids R st nm)) T)) = isDueB (R nm) (T.getD 0 0) ((T.drop 1).take (dirOf (R nm)).length) (T.drop (1 + (dirOf (R nm)).length))) :
    clN p (n + 7) (⟨#[95, 108, 97, 119, 95, 105, 115, 95, 108, 97, 98, 101, 108, 95, 114, 105, 103, 104, 116]⟩ : Str) [.dct P, .lst (st.map .str), .str nm, joinedD (fs.map Fm.toD), .dct N] k = some (.bool true, k) := by
  have c1 : clN p (n + 6) (⟨#[95, 108, 97, 119, 95, 97, 98, 111, 118, 101]⟩ : Str) [.dct P, .str nm] k = some (.tup ((dirOf (R nm)).map .str), k) := c_above H h
  have c2 : clN p (n + 6) (⟨#[95, 108, 97, 119, 95, 98, 101, 108, 111, 119]⟩ : Str) [.dct P, .lst (st.map .str), .str nm] k = some (.lst ((kids R st nm).map .str), k) := c_below H hst hn
  have c3 : ∀ own us ls, us.length ≤ 2 → ls.length ≤ 20 → ∀ k, clN p (n + 6) (⟨#[95, 108, 97, 119, 95, 105, 115, 95, 100, 117, 101]⟩ : Str) [.dct P, .str nm, .int own, .lst (us.map .int), .lst (ls.map .int)] k = some (.bool (isDueB (R nm) own us ls), k) := fun own us ls a b k => c_is_due H h a b
  have c4 : ∀ ms : List Int, ms.length = 4 → ∀ k, clN p (n + 6) (⟨#[95, 108, 97, 119, 95, 104, 111, 108, 100, 115]⟩ : Str) [joinedD (fs.map Fm.toD), .lst (ms.map .int)] k = some (.bool (fs.all (Fm.holds ms)), k) := fun ms hm k => c_holds (by rw [hm]; exact Nat.le_of_ble_eq_true rfl) fs hfl (by rw [hm]; exact hfw)
  have hSn : ∀ o ∈ nm :: (dirOf (R nm) ++ kids R st nm), o ∈ names := by
    intro o ho
    rcases List.mem_cons.mp ho with rfl | ho
    · exact h
    · rcases List.mem_append.mp ho with ho | ho
      · exact H.cl nm h o ho
      · exact hst o (List.mem_filter.mp ho).1
  have hSe : D.str nm :: (List.map D.str (dirOf (R nm)) ++ List.map D.str (kids R st nm)) = (nm :: (dirOf (R nm) ++ kids R st nm)).map .str := by rw [List.map_cons, List.map_append]
  have hSu : (nm :: (dirOf (R nm) ++ kids R st nm)).length = 1 + (dirOf (R nm)).length + (kids R st nm).length := by rw [List.length_cons, List.length_append]; omega
  generalize joinedD (fs.map Fm.toD) = fD at *
  have hul := hS
  rw [hSu] at hul
  generalize dirOf (R nm) = us at *
  generalize kids R st nm = ls at *
  have lu : decide ((us.map D.str).length ≤ lim) = true := limD (m := 4) (by rw [List.length_map]; omega) rfl
  have l1 : decide (1 + (us.map D.str).length ≤ lim) = true := limN (m := 4) (by rw [List.length_map]; omega) rfl
  have l2 : decide ((D.str nm :: us.map D.str).length + (ls.map D.str).length ≤ lim) = true := limN (m := 4) (by rw [List.length_cons, List.length_map, List.length_map]; omega) rfl
  generalize nm :: (us ++ ls) = S at *
  obtain ⟨L, hL⟩ : ∃ L, L = S.map D.str := ⟨_, rfl⟩
  have hLl : L.length = S.length := by rw [hL, List.length_map]
  have hS4 : L.length ≤ 4 := by rw [hLl]; exact hS
  rw [← hL] at hSe
  rw [← hLl] at hR hSu
  have l3 : decide (L.length ≤ lim) = true := limN hS4 rfl
  have b3 : (evS (tbX p) N_law_is_label_right.1.sc 20 (stAt N_law_is_label_right.1.body 2) (((⟨#[112, 108, 97, 110]⟩ : Str), false, .dct P) :: ((⟨#[115, 116, 97, 110, 100, 115]⟩ : Str), false, .lst (st.map .str)) :: ((⟨#[108, 97, 98, 101, 108]⟩ : Str), false, .str nm) :: ((⟨#[102, 111, 114, 109, 117, 108, 97]⟩ : Str), false, fD) :: ((⟨#[115, 112, 111, 116, 115]⟩ : Str), false, .dct N) :: ((⟨#[117, 112, 112, 101, 114, 115]⟩ : Str), false, .tup (us.map .str)) :: ((⟨#[108, 111, 119, 101, 114, 115]⟩ : Str), false, .lst (ls.map .str)) :: ((⟨#[115, 111, 109, 101]⟩ : Str), false, .lst L) :: []) k).run (clN p (n + 6)) = some (.nxt, lbV P N st nm fD (us.map .str) (ls.map .str) L (bitsOf L.length) [], k) := by
    unfold bitsOf
    by_cases q : 1 < L.length
    · rw [if_pos q]
      exact stA l3 (stB (decide_eq_true (Int.ofNat_lt.mpr q) : decide ((1 : Int) < (L.length : Int)) = true) stR)
    · rw [if_neg q]
      exact stA l3 (stB (decide_eq_false (fun e => q (Int.ofNat_lt.mp e)) : decide ((1 : Int) < (L.length : Int)) = false) stR)
  have f1 := nm1 L.length hS4
  have f2 := nm2 L.length hS4
  have f3 := nm3 L.length hS4
  have f4 := nm4 L.length hS4
  have f5 := nm5 L.length hS4
  have f6 := nm6 L.length hS4
  have f7 := nm7 L.length hS4
  have f8 := nm8 L.length hS4
  refine fnB N_law_is_label_right.1 [((⟨#[112, 108, 97, 110]⟩ : Str), false, .dct P), ((⟨#[115, 116, 97, 110, 100, 115]⟩ : Str), false, .lst (st.map .str)), ((⟨#[108, 97, 98, 101, 108]⟩ : Str), false, .str nm), ((⟨#[102, 111, 114, 109, 117, 108, 97]⟩ : Str), false, fD), ((⟨#[115, 112, 111, 116, 115]⟩ : Str), false, .dct N)] (sq (vs' := [((⟨#[112, 108, 97, 110]⟩ : Str), false, .dct P), ((⟨#[115, 116, 97, 110, 100, 115]⟩ : Str), false, .lst (st.map .str)), ((⟨#[108, 97, 98, 101, 108]⟩ : Str), false, .str nm), ((⟨#[102, 111, 114, 109, 117, 108, 97]⟩ : Str), false, fD), ((⟨#[115, 112, 111, 116, 115]⟩ : Str), false, .dct N), ((⟨#[117, 112, 112, 101, 114, 115]⟩ : Str), false, .tup (us.map .str)), ((⟨#[108, 111, 119, 101, 114, 115]⟩ : Str), false, .lst (ls.map .str))]) (k' := k) (stC c1 (stC c2 stR))
    (sq (vs' := ((⟨#[112, 108, 97, 110]⟩ : Str), false, .dct P) :: ((⟨#[115, 116, 97, 110, 100, 115]⟩ : Str), false, .lst (st.map .str)) :: ((⟨#[108, 97, 98, 101, 108]⟩ : Str), false, .str nm) :: ((⟨#[102, 111, 114, 109, 117, 108, 97]⟩ : Str), false, fD) :: ((⟨#[115, 112, 111, 116, 115]⟩ : Str), false, .dct N) :: ((⟨#[117, 112, 112, 101, 114, 115]⟩ : Str), false, .tup (us.map .str)) :: ((⟨#[108, 111, 119, 101, 114, 115]⟩ : Str), false, .lst (ls.map .str)) :: ((⟨#[115, 111, 109, 101]⟩ : Str), false, .lst L) :: []) (k' := k) (by rw [← hSe]; exact stA lu (stA l1 (stA l2 stR))) (sq b3 (sqF (k' := k) (l := rangeD (codes L.length)) (stA l3 (stA f4 (stA f2 (stA f1 stR)))) f7 ?_))))
  clear c1 c2 b3 f1 f2 f4 f7 l1 l2
  refine for_each (fun vs k' => k' = k ∧ ∃ X, vs = lbV P N st nm fD (us.map .str) (ls.map .str) L (bitsOf L.length) X ∧ LX X) (P := fun o => o = _) ⟨rfl, [], rfl, .inl rfl⟩ ?_ ?_
  · rintro d hd vs k' ⟨rfl, X, rfl, hX⟩
    obtain ⟨c, hc, rfl⟩ := List.mem_map.mp hd
    have hr := hR c (List.mem_range.mp hc)
    dsimp only at hr
    have ht : ∀ Y, (compOf (tbX p) 39 N_law_is_label_right.1.sc (lbV P N st nm fD (us.map .str) (ls.map .str) L (bitsOf L.length) (((⟨#[99, 111, 100, 101]⟩ : Str), false, .int (Int.ofNat c)) :: Y)) k' (rE (stAt lrB 0)) (rangeD L.length)).run (clN p (n + 6)) = some ((toldOf L.length c).map .int, k') := by
      intro Y
      have := cmpO (cl := clN p (n + 6)) (k := k') (tb := tbX p) (n := 39) (sc := N_law_is_label_right.1.sc) (vs := lbV P N st nm fD (us.map .str) (ls.map .str) L (bitsOf L.length) (((⟨#[99, 111, 100, 101]⟩ : Str), false, .int (Int.ofNat c)) :: Y)) (e := rE (stAt lrB 0)) (fun i : Nat => D.int (Int.ofNat i)) (fun _ => true) (fun i => .int (tf (bitsOf L.length) c i)) (xs := List.range L.length) fun i hi => ⟨stR, fun _ => ⟨false, stA (f5 i (List.mem_range.mp hi)).1 (stA (f5 i (List.mem_range.mp hi)).2 (stA f3 stR))⟩⟩
      rw [List.filter_eq_self.mpr fun _ _ => rfl] at this
      unfold toldOf
      rw [List.map_map]
      exact this
    have htl : (toldOf L.length c).length = L.length := by unfold toldOf; rw [List.length_map, List.length_range]
    have l1 : 1 ≤ L.length := by rw [hSu]; omega
    generalize toldOf L.length c = T at hr ht htl
    obtain ⟨t0, T', rfl⟩ : ∃ t0 T', T = t0 :: T' := by
      cases T with
      | nil => rw [← htl] at l1; exact absurd l1 (Nat.not_succ_le_zero _)
      | cons a b => exact ⟨a, b, rfl⟩
    cases q : t0 == 2 with
    | true =>
      have fin : ∀ X : Vars, (X = [] ∨ ∃ d, X = [((⟨#[107]⟩ : Str), false, d)]) → OkP (fun vs k' => k' = k' ∧ ∃ X, vs = lbV P N st nm fD (us.map .str) (ls.map .str) L (bitsOf L.length) X ∧ LX X) (some (.cont, lbV P N st nm fD (us.map .str) (ls.map .str) L (bitsOf L.length) (((⟨#[99, 111, 100, 101]⟩ : Str), false, .int (Int.ofNat c)) :: ((⟨#[116, 111, 108, 100]⟩ : Str), false, .lst ((t0 :: T').map .int)) :: ((⟨#[109, 97, 115, 107, 115]⟩ : Str), true, .lst ([0, 0, 0, 0].map .int)) :: X), k')) := by
        rintro X (rfl | ⟨d, rfl⟩)
        · exact ⟨_, _, _, rfl, .inr rfl, rfl, _, rfl, .inr ⟨_, _, _, .none, _, .inl rfl⟩⟩
        · exact ⟨_, _, _, rfl, .inr rfl, rfl, _, rfl, .inr ⟨_, _, _, d, _, .inr rfl⟩⟩
      rcases hX with rfl | ⟨a, b, e, d, o, rfl | rfl⟩
      · obtain ⟨fl, v, k₁, z1, z2, z3, z4⟩ := fin [] (.inl rfl)
        exact ⟨fl, v, k₁, (stA l3 (stA f6 (stA f8 (stS (ht []) (stB q stR))))).trans z1, z2, (by cases z1; rfl), z4⟩
      · obtain ⟨fl, v, k₁, z1, z2, z3, z4⟩ := fin [] (.inl rfl)
        exact ⟨fl, v, k₁, (stA l3 (stA f6 (stA f8 (stS (ht [((⟨#[116, 111, 108, 100]⟩ : Str), false, b), ((⟨#[109, 97, 115, 107, 115]⟩ : Str), o, e)]) (stB q stR))))).trans z1, z2, (by cases z1; rfl), z4⟩
      · obtain ⟨fl, v, k₁, z1, z2, z3, z4⟩ := fin [((⟨#[107]⟩ : Str), false, d)] (.inr ⟨d, rfl⟩)
        exact ⟨fl, v, k₁, (stA l3 (stA f6 (stA f8 (stS (ht [((⟨#[116, 111, 108, 100]⟩ : Str), false, b), ((⟨#[109, 97, 115, 107, 115]⟩ : Str), o, e), ((⟨#[107]⟩ : Str), false, d)]) (stB q stR))))).trans z1, z2, (by cases z1; rfl), z4⟩
    | false =>
      have q2 : t0 ≠ 2 := fun e => by rw [e] at q; cases q
      have hr := hr q2
      have lT : decide (((t0 :: T').map D.int).length ≤ lim) = true := limD (m := 4) (by rw [List.length_map, htl]; exact hS4) rfl
      have pre : ∀ Y : Vars, (Y = [] ∨ ∃ d, Y = [((⟨#[107]⟩ : Str), false, d)]) → OkP (fun vs k'' => k'' = k' ∧ ∃ X, vs = lbV P N st nm fD (us.map .str) (ls.map .str) L (bitsOf L.length) X ∧ LX X) (((evSs (evS (tbX p) N_law_is_label_right.1.sc 19) (lrB.drop 3) (lbV P N st nm fD (us.map .str) (ls.map .str) L (bitsOf L.length) (((⟨#[99, 111, 100, 101]⟩ : Str), false, .int (Int.ofNat c)) :: ((⟨#[116, 111, 108, 100]⟩ : Str), false, .lst ((t0 :: T').map .int)) :: ((⟨#[109, 97, 115, 107, 115]⟩ : Str), true, .lst ([0, 0, 0, 0].map .int)) :: Y)) k').bind M.ret).run (clN p (n + 6))) := by
        intro Y hY
        refine sqFP (k' := k') (l := rangeD L.length) (stA l3 (stA f6 stR)) f8 ?_
        refine for_foldM (fun i : Nat => D.int (Int.ofNat i)) (fun (s : List Int) vs k'' => k'' = k' ∧ s.length = 4 ∧ ∃ Y : Vars, vs = lbV P N st nm fD (us.map .str) (ls.map .str) L (bitsOf L.length) (((⟨#[99, 111, 100, 101]⟩ : Str), false, .int (Int.ofNat c)) :: ((⟨#[116, 111, 108, 100]⟩ : Str), false, .lst ((t0 :: T').map .int)) :: ((⟨#[109, 97, 115, 107, 115]⟩ : Str), true, .lst (s.map .int)) :: Y) ∧ (Y = [] ∨ ∃ d, Y = [((⟨#[107]⟩ : Str), false, d)])) (fun s i => s.set (num (S.getD i (⟨#[]⟩ : Str))).toNat ((t0 :: T').getD i 0)) (xs := List.range L.length) (s := [0, 0, 0, 0]) ?_ ⟨rfl, rfl, Y, rfl, hY⟩ ?_
        · rintro s i hi vs k'' ⟨rfl, j0, Y, rfl, hY⟩
          have hi : i < L.length := List.mem_range.mp hi
          have hi4 : i < 4096 := Nat.lt_of_lt_of_le hi (Nat.le_trans hS4 (Nat.le_of_ble_eq_true rfl))
          have hiS : i < S.length := hLl ▸ hi
          have g1 : subF (tbX p) k'' (.lst ((t0 :: T').map .int)) (.int (Int.ofNat i)) = some (.int ((t0 :: T').getD i 0)) := by
            rw [at_nat hi4, List.getElem?_map, List.getD_eq_getElem?_getD, List.getElem?_eq_getElem (htl ▸ hi)]
            rfl
          have g2 : subF (tbX p) k'' (.lst L) (.int (Int.ofNat i)) = some (.str (S.getD i (⟨#[]⟩ : Str))) := by
            rw [at_nat hi4, hL, List.getElem?_map, List.getD_eq_getElem?_getD, List.getElem?_eq_getElem hiS]
            rfl
          have g3 : S.getD i (⟨#[]⟩ : Str) ∈ names := by
            refine hSn _ ?_
            rw [List.getD_eq_getElem?_getD, List.getElem?_eq_getElem hiS]
            exact List.getElem_mem hiS
          have g4 : subF (tbX p) k'' (.dct N) (.str (S.getD i (⟨#[]⟩ : Str))) = some (.int (num (S.getD i (⟨#[]⟩ : Str)))) := hN _ g3
          have j1 : (s.map D.int).length = 4 := by rw [List.length_map]; exact j0
          have g5 : decide ((s.map D.int).length ≤ lim) = true := limN (m := 4) (Nat.le_of_eq j1) rfl
          have g6 : decide (0 ≤ num (S.getD i (⟨#[]⟩ : Str)) ∧ num (S.getD i (⟨#[]⟩ : Str)) < ((s.map D.int).length : Nat)) = true := decide_eq_true (by rw [j1]; exact hnum _ g3)
          refine ⟨.nxt, lbV P N st nm fD (us.map .str) (ls.map .str) L (bitsOf L.length) (((⟨#[99, 111, 100, 101]⟩ : Str), false, .int (Int.ofNat c)) :: ((⟨#[116, 111, 108, 100]⟩ : Str), false, .lst ((t0 :: T').map .int)) :: ((⟨#[109, 97, 115, 107, 115]⟩ : Str), true, .lst ((s.set (num (S.getD i (⟨#[]⟩ : Str))).toNat ((t0 :: T').getD i 0)).map .int)) :: [((⟨#[107]⟩ : Str), false, .int (Int.ofNat i))]), k'', ?_, .inl rfl, rfl, by rw [List.length_set]; exact j0, _, rfl, .inr ⟨_, rfl⟩⟩
          rw [List.map_set]
          rcases hY with rfl | ⟨d, rfl⟩ <;> exact stL g1 (stL g2 (stL g4 (stA g5 (stA g6 stR))))
        · rintro vs k'' ⟨rfl, j0, Y, rfl, hY⟩
          have hmk : (List.range L.length).foldl (fun s i => s.set (num (S.getD i (⟨#[]⟩ : Str))).toNat ((t0 :: T').getD i 0)) [0, 0, 0, 0] = masksOf num S (t0 :: T') := by rw [hLl]; rfl
          rw [hmk] at j0 ⊢
          have c4' := c4 _ j0 k''
          have hT : T'.length + 1 = 1 + us.length + ls.length := by rw [← hSu, ← htl]; rfl
          have g1 : slcD ((t0 :: T').map D.int) (some 1) (some (1 + ((us.map D.str).length : Int))) = (T'.take us.length).map .int := by
            have := slcD_mid ((t0 :: T').map D.int) 1 (1 + us.length) (by rw [List.length_map, List.length_cons, hT]; exact Nat.le_add_right _ _) (Nat.le_add_right _ _)
            rw [Nat.add_sub_cancel_left] at this
            rw [List.length_map]
            refine this.trans ?_
            rw [List.map_take]; rfl
          have g2 : slcD ((t0 :: T').map D.int) (some (1 + ((us.map D.str).length : Int))) none = (T'.drop us.length).map .int := by
            have := slcD_from ((t0 :: T').map D.int) (1 + us.length)
            rw [List.length_map]
            refine this.trans ?_
            rw [Nat.add_comm, List.map_cons, List.drop_succ_cons, List.map_drop]
          have c3' := c3 t0 (T'.take us.length) (T'.drop us.length) (Nat.le_trans (List.length_take_le _ _) hu) (by rw [List.length_drop]; omega) k''
          have hr' : fs.all (Fm.holds (masksOf num S (t0 :: T'))) = isDueB (R nm) t0 (T'.take us.length) (T'.drop us.length) := by
            refine hr.trans ?_
            rw [Nat.add_comm 1, List.drop_succ_cons]; rfl
          rw [hr'] at c4'
          rw [← g1, ← g2] at c3'
          have g4 : (!(isDueB (R nm) t0 (T'.take us.length) (T'.drop us.length) == isDueB (R nm) t0 (T'.take us.length) (T'.drop us.length))) = false := by rw [beq_self_eq_true]; rfl
          rcases hY with rfl | ⟨d, rfl⟩
          · exact ⟨.nxt, lbV P N st nm fD (us.map .str) (ls.map .str) L (bitsOf L.length) (((⟨#[99, 111, 100, 101]⟩ : Str), false, .int (Int.ofNat c)) :: ((⟨#[116, 111, 108, 100]⟩ : Str), false, .lst ((t0 :: T').map .int)) :: ((⟨#[109, 97, 115, 107, 115]⟩ : Str), false, .lst ((masksOf num S (t0 :: T')).map .int)) :: []), k'', stC c4' (stA lu (stA lT (stA lu (stA lT (stC c3' (stB g4 stR)))))), .inl rfl, rfl, _, rfl, .inr ⟨_, _, _, .none, _, .inl rfl⟩⟩
          · exact ⟨.nxt, lbV P N st nm fD (us.map .str) (ls.map .str) L (bitsOf L.length) (((⟨#[99, 111, 100, 101]⟩ : Str), false, .int (Int.ofNat c)) :: ((⟨#[116, 111, 108, 100]⟩ : Str), false, .lst ((t0 :: T').map .int)) :: ((⟨#[109, 97, 115, 107, 115]⟩ : Str), false, .lst ((masksOf num S (t0 :: T')).map .int)) :: [((⟨#[107]⟩ : Str), false, d)]), k'', stC c4' (stA lu (stA lT (stA lu (stA lT (stC c3' (stB g4 stR)))))), .inl rfl, rfl, _, rfl, .inr ⟨_, _, _, d, _, .inr rfl⟩⟩
      rcases hX with rfl | ⟨a, b, e, d, o, rfl | rfl⟩
      · exact turnB (lbV P N st nm fD (us.map .str) (ls.map .str) L (bitsOf L.length) [((⟨#[99, 111, 100, 101]⟩ : Str), false, .int (Int.ofNat c))]) (sqP (vs' := lbV P N st nm fD (us.map .str) (ls.map .str) L (bitsOf L.length) (((⟨#[99, 111, 100, 101]⟩ : Str), false, .int (Int.ofNat c)) :: ((⟨#[116, 111, 108, 100]⟩ : Str), false, .lst ((t0 :: T').map .int)) :: [])) (k' := k') (stA l3 (stA f6 (stA f8 (stS (ht []) stR)))) (sqP (vs' := lbV P N st nm fD (us.map .str) (ls.map .str) L (bitsOf L.length) (((⟨#[99, 111, 100, 101]⟩ : Str), false, .int (Int.ofNat c)) :: ((⟨#[116, 111, 108, 100]⟩ : Str), false, .lst ((t0 :: T').map .int)) :: ((⟨#[109, 97, 115, 107, 115]⟩ : Str), true, .lst ([0, 0, 0, 0].map .int)) :: [])) (k' := k') stR (sqP (vs' := lbV P N st nm fD (us.map .str) (ls.map .str) L (bitsOf L.length) (((⟨#[99, 111, 100, 101]⟩ : Str), false, .int (Int.ofNat c)) :: ((⟨#[116, 111, 108, 100]⟩ : Str), false, .lst ((t0 :: T').map .int)) :: ((⟨#[109, 97, 115, 107, 115]⟩ : Str), true, .lst ([0, 0, 0, 0].map .int)) :: [])) (k' := k') (stB q stR) (pre [] (.inl rfl)))))
      · exact turnB (lbV P N st nm fD (us.map .str) (ls.map .str) L (bitsOf L.length) [((⟨#[99, 111, 100, 101]⟩ : Str), false, .int (Int.ofNat c)), ((⟨#[116, 111, 108, 100]⟩ : Str), false, b), ((⟨#[109, 97, 115, 107, 115]⟩ : Str), o, e)]) (sqP (vs' := lbV P N st nm fD (us.map .str) (ls.map .str) L (bitsOf L.length) (((⟨#[99, 111, 100, 101]⟩ : Str), false, .int (Int.ofNat c)) :: ((⟨#[116, 111, 108, 100]⟩ : Str), false, .lst ((t0 :: T').map .int)) :: [((⟨#[109, 97, 115, 107, 115]⟩ : Str), o, e)])) (k' := k') (stA l3 (stA f6 (stA f8 (stS (ht [((⟨#[116, 111, 108, 100]⟩ : Str), false, b), ((⟨#[109, 97, 115, 107, 115]⟩ : Str), o, e)]) stR)))) (sqP (vs' := lbV P N st nm fD (us.map .str) (ls.map .str) L (bitsOf L.length) (((⟨#[99, 111, 100, 101]⟩ : Str), false, .int (Int.ofNat c)) :: ((⟨#[116, 111, 108, 100]⟩ : Str), false, .lst ((t0 :: T').map .int)) :: ((⟨#[109, 97, 115, 107, 115]⟩ : Str), true, .lst ([0, 0, 0, 0].map .int)) :: [])) (k' := k') stR (sqP (vs' := lbV P N st nm fD (us.map .str) (ls.map .str) L (bitsOf L.length) (((⟨#[99, 111, 100, 101]⟩ : Str), false, .int (Int.ofNat c)) :: ((⟨#[116, 111, 108, 100]⟩ : Str), false, .lst ((t0 :: T').map .int)) :: ((⟨#[109, 97, 115, 107, 115]⟩ : Str), true, .lst ([0, 0, 0, 0].map .int)) :: [])) (k' := k') (stB q stR) (pre [] (.inl rfl)))))
      · exact turnB (lbV P N st nm fD (us.map .str) (ls.map .str) L (bitsOf L.length) [((⟨#[99, 111, 100, 101]⟩ : Str), false, .int (Int.ofNat c)), ((⟨#[116, 111, 108, 100]⟩ : Str), false, b), ((⟨#[109, 97, 115, 107, 115]⟩ : Str), o, e), ((⟨#[107]⟩ : Str), false, d)]) (sqP (vs' := lbV P N st nm fD (us.map .str) (ls.map .str) L (bitsOf L.length) (((⟨#[99, 111, 100, 101]⟩ : Str), false, .int (Int.ofNat c)) :: ((⟨#[116, 111, 108, 100]⟩ : Str), false, .lst ((t0 :: T').map .int)) :: [((⟨#[109, 97, 115, 107, 115]⟩ : Str), o, e), ((⟨#[107]⟩ : Str), false, d)])) (k' := k') (stA l3 (stA f6 (stA f8 (stS (ht [((⟨#[116, 111, 108, 100]⟩ : Str), false, b), ((⟨#[109, 97, 115, 107, 115]⟩ : Str), o, e), ((⟨#[107]⟩ : Str), false, d)]) stR)))) (sqP (vs' := lbV P N st nm fD (us.map .str) (ls.map .str) L (bitsOf L.length) (((⟨#[99, 111, 100, 101]⟩ : Str), false, .int (Int.ofNat c)) :: ((⟨#[116, 111, 108, 100]⟩ : Str), false, .lst ((t0 :: T').map .int)) :: ((⟨#[109, 97, 115, 107, 115]⟩ : Str), true, .lst ([0, 0, 0, 0].map .int)) :: [((⟨#[107]⟩ : Str), false, d)])) (k' := k') stR (sqP (vs' := lbV P N st nm fD (us.map .str) (ls.map .str) L (bitsOf L.length) (((⟨#[99, 111, 100, 101]⟩ : Str), false, .int (Int.ofNat c)) :: ((⟨#[116, 111, 108, 100]⟩ : Str), false, .lst ((t0 :: T').map .int)) :: ((⟨#[109, 97, 115, 107, 115]⟩ : Str), true, .lst ([0, 0, 0, 0].map .int)) :: [((⟨#[107]⟩ : Str), false, d)])) (k' := k') (stB q stR) (pre [((⟨#[107]⟩ : Str), false, d)] (.inr ⟨d, rfl⟩)))))
  · rintro vs k' ⟨rfl, X, rfl, hX⟩
    rcases hX with rfl | ⟨a, b, e, d, o, rfl | rfl⟩ <;> exact stR
end
end Mine

-- C13
namespace Mine
section
variable {p : Par} {n k : Nat} {w : Int}
theorem fedA : isFeedAt (some (false, .feed)) (.str (⟨#[97, 116]⟩ : Str)) (.int (Int.ofNat k + 1)) k = true := by
  show (_ && (Int.ofNat (k + 1) == Int.ofNat (k + 1))) = true
  rw [beq_self_eq_true]; rfl
noncomputable def drw (p : Par) (k : Nat) (w : Int) : Int := if k < p.cells.length then (p.cells.getD k 0).fmod w else
  ((7 * Int.ofNat (k + 1) * Int.ofNat (k + 1) + (Int.ofNat (k + 1)).fdiv 2 + 3 + p.mix).fmod 97).fmod w
theorem drw_pos (hw : 0 < w) : 0 ≤ drw p k w ∧ drw p k w < w := by
  unfold drw
  split
  · exact ⟨Int.fmod_nonneg_of_pos _ hw, Int.fmod_lt_of_pos _ hw⟩
  · exact ⟨Int.fmod_nonneg_of_pos _ hw, Int.fmod_lt_of_pos _ hw⟩
theorem smallN {m : Nat} (h : m ≤ 4096) : small (Int.ofNat m) = true := by
  unfold small
  rw [Bool.and_eq_true, decide_eq_true_eq, decide_eq_true_eq]
  exact ⟨Int.le_trans (by decide) (Int.natCast_nonneg m), Int.ofNat_le.mpr h⟩
theorem c_draw (hc : p.cells.length ≤ 100) (hk : k ≤ 100) (hw : 0 < w) : clN p (n + 1) (⟨#[95, 108, 97, 119, 95, 100, 114, 97, 119]⟩ : Str) [.feed, .int w] k = some (.int (drw p k w), k + 1) := by
  have hz : (!(w == 0)) = true := by rw [Bool.not_eq_true', beq_eq_false_iff_ne]; exact Int.ne_of_gt hw
  have s1 : small (Int.ofNat (k + 1)) = true := smallN (Nat.le_trans (Nat.succ_le_succ hk) (Nat.le_of_ble_eq_true rfl))
  have s2 : small (7 * Int.ofNat (k + 1)) = true := smallN (m := 7 * (k + 1)) (Nat.le_trans (Nat.mul_le_mul_left 7 (Nat.succ_le_succ hk)) (Nat.le_of_ble_eq_true rfl))
  have hl : decide ((p.cells.map D.int).length ≤ lim) = true := limD (m := 100) (by rw [List.length_map]; exact hc) rfl
  unfold drw
  by_cases q : k < p.cells.length
  · rw [if_pos q]
    have e0 : decide (Int.ofNat (k + 1) ≤ ((p.cells.map D.int).length : Int)) = true := decide_eq_true (by rw [List.length_map]; exact Int.ofNat_le.mpr q)
    have e1 : subF (tbX p) (k + 1) (.lst (p.cells.map D.int)) (.int (Int.ofNat (k + 1) - 1)) = some (.int (p.cells.getD k 0)) := by
      rw [show Int.ofNat (k + 1) - 1 = Int.ofNat k from Int.add_sub_cancel (Int.ofNat k) 1, at_nat (Nat.lt_of_le_of_lt hk (Nat.lt_of_lt_of_le (Nat.lt_succ_self 100) (Nat.le_of_ble_eq_true rfl))), List.getElem?_map, List.getD_eq_getElem?_getD, List.getElem?_eq_getElem q]
      rfl
    exact fnR N_law_draw.1 (stB (fedA (k := k)) (stA hl (stB e0 (stLn e1 1 (stA hz stR)))))
  · rw [if_neg q]
    have e0 : decide (Int.ofNat (k + 1) ≤ ((p.cells.map D.int).length : Int)) = false := decide_eq_false (by rw [List.length_map]; exact fun h => q (Int.ofNat_le.mp h))
    have f1 : (small 7 && small (Int.ofNat (k + 1))) = true := by rw [s1]; rfl
    have f2 : (small (7 * Int.ofNat (k + 1)) && small (Int.ofNat (k + 1))) = true := by rw [s1, s2]; rfl
    have f3 : (small (Int.ofNat (k + 1)) && small 2 && decide ((0 : Int) < 2)) = true := by rw [s1]; rfl
    exact fnR N_law_draw.1 (stB (fedA (k := k)) (stA hl (stB e0 (stA f1 (stA f2 (stA f3 (stAn hz 1 stR)))))))
end
end Mine

-- C14
namespace Mine
section
variable {p : Par} {n k : Nat}
noncomputable def cPar (d : Int) : Str := if d = 0 then (⟨#[65]⟩ : Str) else (⟨#[66]⟩ : Str)
noncomputable def dPar (d : Int) : Str := if d = 1 then (⟨#[65]⟩ : Str) else if d = 2 then (⟨#[66]⟩ : Str) else if d = 3 then (⟨#[67]⟩ : Str) else (⟨#[]⟩ : Str)
noncomputable def dParts (d : Int) : List Str := if d = 4 then [(⟨#[65]⟩ : Str)] else if d = 5 then [(⟨#[66]⟩ : Str), (⟨#[67]⟩ : Str)] else if d = 6 then [(⟨#[67]⟩ : Str)] else []
noncomputable def mkOf (d : Int) : Str := if d = 0 then (⟨#[]⟩ : Str) else if d = 1 then (⟨#[111, 110, 101]⟩ : Str) else if d = 2 then (⟨#[108, 111, 110, 101]⟩ : Str) else (⟨#[115, 111, 109, 101]⟩ : Str)
theorem f_c {k : Nat} {d : Int} (h : 0 ≤ d ∧ d < 2) {tb : Tb} : subF tb k (.str (⟨#[65, 66]⟩ : Str)) (.int d) = some (.str (cPar d)) := by
  have : d = 0 ∨ d = 1 := by omega
  rcases this with rfl | rfl <;> rfl
theorem f_d {k : Nat} {d : Int} (h : 0 ≤ d ∧ d < 7) {tb : Tb} : subF tb k (.lst [D.tup [.str (⟨#[]⟩ : Str), .tup []], .tup [.str (⟨#[65]⟩ : Str), .tup []], .tup [.str (⟨#[66]⟩ : Str), .tup []], .tup [.str (⟨#[67]⟩ : Str), .tup []], .tup [.str (⟨#[]⟩ : Str), .tup [.str (⟨#[65]⟩ : Str)]], .tup [.str (⟨#[]⟩ : Str), .tup [.str (⟨#[66]⟩ : Str), .str (⟨#[67]⟩ : Str)]], .tup [.str (⟨#[]⟩ : Str), .tup [.str (⟨#[67]⟩ : Str)]]]) (.int d) = some (.tup [.str (dPar d), .tup ((dParts d).map .str)]) := by
  have : d = 0 ∨ d = 1 ∨ d = 2 ∨ d = 3 ∨ d = 4 ∨ d = 5 ∨ d = 6 := by omega
  rcases this with rfl | rfl | rfl | rfl | rfl | rfl | rfl <;> rfl
theorem f_m {k : Nat} {d : Int} (h : 0 ≤ d ∧ d < 4) {tb : Tb} : subF tb k (.tup [D.str (⟨#[]⟩ : Str), .str (⟨#[111, 110, 101]⟩ : Str), .str (⟨#[108, 111, 110, 101]⟩ : Str), .str (⟨#[115, 111, 109, 101]⟩ : Str)]) (.int d) = some (.str (mkOf d)) := by
  have : d = 0 ∨ d = 1 ∨ d = 2 ∨ d = 3 := by omega
  rcases this with rfl | rfl | rfl | rfl <;> rfl
theorem eraseMap {α β : Type} (f : α → β) : ∀ (l : List α) (i : Nat), (l.map f).eraseIdx i = (l.eraseIdx i).map f
  | [], _ => rfl
  | _ :: _, 0 => rfl
  | a :: r, i + 1 => by simp [eraseMap f r i]
noncomputable def lotD (lot : List Str) : D := .tup (lot.map .str)
noncomputable def planP (r1 r2 r3 r4 : Row) : List (Str × D) := [((⟨#[65]⟩ : Str), rowD r1), ((⟨#[66]⟩ : Str), rowD r2), ((⟨#[67]⟩ : Str), rowD r3), ((⟨#[68]⟩ : Str), rowD r4)]
noncomputable def rOf (r1 r2 r3 r4 : Row) (x : Str) : Row := if x = (⟨#[65]⟩ : Str) then r1 else if x = (⟨#[66]⟩ : Str) then r2 else if x = (⟨#[67]⟩ : Str) then r3 else r4
noncomputable def itemOf (R : Str → Row) (lot : List Str) : D := itD (lotD lot) (R (lot.headD (⟨#[]⟩ : Str)))
/-- what is left and what is taken, after j draws -/
noncomputable def poss (ALL : List (List Str)) : Nat → List (List (List Str) × List (List Str))
  | 0 => [(ALL, [])]
  | j + 1 => (poss ALL j).flatMap fun q => (List.range q.1.length).filterMap fun d => (q.1[d]?).map fun x => (q.1.eraseIdx d, q.2 ++ [x])
theorem poss_step {ALL L done : List (List Str)} {j d : Nat} {x : List Str} (h : (L, done) ∈ poss ALL j) (hx : L[d]? = some x) : (L.eraseIdx d, done ++ [x]) ∈ poss ALL (j + 1) := by
  unfold poss
  refine List.mem_flatMap.mpr ⟨(L, done), h, List.mem_filterMap.mpr ⟨d, List.mem_range.mpr (List.getElem?_eq_some_iff.mp hx).1, ?_⟩⟩
  simp [hx]
noncomputable def all1 : List (List Str) := [[(⟨#[65]⟩ : Str)], [(⟨#[66]⟩ : Str)], [(⟨#[67]⟩ : Str)], [(⟨#[68]⟩ : Str)]]
noncomputable def all2 : List (List Str) := [[(⟨#[65]⟩ : Str)], [(⟨#[66]⟩ : Str), (⟨#[67]⟩ : Str)], [(⟨#[68]⟩ : Str)]]
theorem plan_lk {r1 r2 r3 r4 : Row} {ALL : List (List Str)} (hA : ALL = all1 ∨ ALL = all2) {lot : List Str} (h : lot ∈ ALL) : ∃ x xs, lot = x :: xs ∧ xs.length ≤ 3 ∧ (planP r1 r2 r3 r4).lookup x = some (rowD (rOf r1 r2 r3 r4 x)) := by
  have h1 : (planP r1 r2 r3 r4).lookup (⟨#[65]⟩ : Str) = some (rowD (rOf r1 r2 r3 r4 (⟨#[65]⟩ : Str))) := by
    unfold planP rOf; rw [if_pos rfl]; exact lk_eq
  have h2 : (planP r1 r2 r3 r4).lookup (⟨#[66]⟩ : Str) = some (rowD (rOf r1 r2 r3 r4 (⟨#[66]⟩ : Str))) := by
    unfold planP rOf; rw [if_neg (by decide +kernel), if_pos rfl, lk_ne (by decide +kernel)]; exact lk_eq
  have h4 : (planP r1 r2 r3 r4).lookup (⟨#[67]⟩ : Str) = some (rowD (rOf r1 r2 r3 r4 (⟨#[67]⟩ : Str))) := by
    unfold planP rOf; rw [if_neg (by decide +kernel), if_neg (by decide +kernel), if_pos rfl, lk_ne (by decide +kernel), lk_ne (by decide +kernel)]; exact lk_eq
  have h5 : (planP r1 r2 r3 r4).lookup (⟨#[68]⟩ : Str) = some (rowD (rOf r1 r2 r3 r4 (⟨#[68]⟩ : Str))) := by
    unfold planP rOf; rw [if_neg (by decide +kernel), if_neg (by decide +kernel), if_neg (by decide +kernel), lk_ne (by decide +kernel), lk_ne (by decide +kernel), lk_ne (by decide +kernel)]; exact lk_eq
  rcases hA with rfl | rfl
  · simp only [all1, List.mem_cons, List.not_mem_nil, or_false] at h
    rcases h with rfl | rfl | rfl | rfl
    · exact ⟨_, _, rfl, by simp, h1⟩
    · exact ⟨_, _, rfl, by simp, h2⟩
    · exact ⟨_, _, rfl, by simp, h4⟩
    · exact ⟨_, _, rfl, by simp, h5⟩
  · simp only [all2, List.mem_cons, List.not_mem_nil, or_false] at h
    rcases h with rfl | rfl | rfl
    · exact ⟨_, _, rfl, by simp, h1⟩
    · exact ⟨_, _, rfl, by simp, h2⟩
    · exact ⟨_, _, rfl, by simp, h5⟩
noncomputable def cAA (p : Par) : Bool := drw p 10 2 == 1 && cPar (drw p 0 2) == (⟨#[65]⟩ : Str)
noncomputable def rA (p : Par) : Row := ⟨(⟨#[]⟩ : Str), [], drw p 2 2 == 1, mkOf (drw p 3 4)⟩
noncomputable def rB (p : Par) : Row := ⟨(⟨#[65]⟩ : Str), [], drw p 4 2 == 1, mkOf (drw p 5 4)⟩
noncomputable def rC (p : Par) : Row := ⟨cPar (drw p 0 2), [], drw p 6 2 == 1, mkOf (drw p 7 4)⟩
noncomputable def rD' (p : Par) : Row := ⟨dPar (drw p 1 7), dParts (drw p 1 7), drw p 8 2 == 1 && (dParts (drw p 1 7)).isEmpty, mkOf (drw p 9 4)⟩
noncomputable def PlanGoal (p : Par) (r1 r2 r3 r4 : Row) (ALL : List (List Str)) (o : Option (D × Nat)) : Prop := ∃ done k', o = some (.tup [.dct (planP r1 r2 r3 r4), .lst (done.map (itemOf (rOf r1 r2 r3 r4))), .lst (done.flatten.map .str)], k') ∧ ([], done) ∈ poss ALL ALL.length
noncomputable def plE (X : Vars) : Vars := ((⟨#[102, 101, 101, 100]⟩ : Str), false, .feed) :: X
noncomputable def unD4 (a d : Str) : D := .dct [((⟨#[65]⟩ : Str), .str (⟨#[]⟩ : Str)), ((⟨#[66]⟩ : Str), .str (⟨#[65]⟩ : Str)), ((⟨#[67]⟩ : Str), .str a), ((⟨#[68]⟩ : Str), .str d)]
noncomputable def plQ (u ps : D) (pl : List (Str × D)) (x : Str) (w : Bool) (X : Vars) : Vars := plE (((⟨#[117, 110, 100, 101, 114]⟩ : Str), true, u) :: ((⟨#[112, 97, 114, 116, 115]⟩ : Str), false, ps) :: ((⟨#[112, 108, 97, 110]⟩ : Str), true, .dct pl) :: ((⟨#[108, 97, 98, 101, 108]⟩ : Str), false, .str x) :: ((⟨#[105, 115, 95, 119, 104, 111, 108, 101]⟩ : Str), false, .bool w) :: X)
noncomputable abbrev plG (p : Par) : Stmt → EvS := evS (tbX p) N_law_plan.1.sc 20
noncomputable abbrev plB (p : Par) (x : Str) (V : Vars) (k : Nat) : M (Fl × Vars × Nat) := (bindT N_law_plan.1.sc (fT (stAt N_law_plan.1.body 3)) (.str x) V).bind fun v => evSs (evS (tbX p) N_law_plan.1.sc 19) (fB (stAt N_law_plan.1.body 3)) v k
noncomputable def planQ (r1 r2 r3 r4 : D) : List (Str × D) := [((⟨#[65]⟩ : Str), r1), ((⟨#[66]⟩ : Str), r2), ((⟨#[67]⟩ : Str), r3), ((⟨#[68]⟩ : Str), r4)]
theorem dr (hc : p.cells.length ≤ 100) (k : Nat) (w : Int) (hk : Nat.ble k 60 = true) (hw : 0 < w) : clN p (n + 1) (⟨#[95, 108, 97, 119, 95, 100, 114, 97, 119]⟩ : Str) [.feed, .int w] k = some (.int (drw p k w), k + 1) := c_draw hc (Nat.le_trans (Nat.le_of_ble_eq_true hk) (Nat.le_of_ble_eq_true rfl)) hw
theorem pl_A {a d : Str} {ps : D} {b : Bool} (hc : p.cells.length ≤ 100) (hb : (drw p 2 2 == 1) = b) : (plB p (⟨#[65]⟩ : Str) (plE [((⟨#[117, 110, 100, 101, 114]⟩ : Str), true, unD4 a d), ((⟨#[112, 97, 114, 116, 115]⟩ : Str), false, ps), ((⟨#[112, 108, 97, 110]⟩ : Str), true, .dct [])]) 2).run (clN p (n + 1)) = some (.nxt, plQ (unD4 a d) ps [((⟨#[65]⟩ : Str), rowD ⟨(⟨#[]⟩ : Str), [], b, mkOf (drw p 3 4)⟩)] (⟨#[65]⟩ : Str) b [], 4) := by
  cases b <;> exact stC (dr hc 2 2 rfl (by decide)) (stB hb (stC (dr hc 3 4 rfl (by decide)) (stL (f_m (k := 4) (tb := tbX p) (drw_pos (p := p) (k := 3) (by decide))) stR)))
theorem pl_B {a d : Str} {ps r1 : D} {b w : Bool} (hc : p.cells.length ≤ 100) (hb : (drw p 4 2 == 1) = b) : (plB p (⟨#[66]⟩ : Str) (plQ (unD4 a d) ps [((⟨#[65]⟩ : Str), r1)] (⟨#[65]⟩ : Str) w []) 4).run (clN p (n + 1)) = some (.nxt, plQ (unD4 a d) ps [((⟨#[65]⟩ : Str), r1), ((⟨#[66]⟩ : Str), rowD ⟨(⟨#[65]⟩ : Str), [], b, mkOf (drw p 5 4)⟩)] (⟨#[66]⟩ : Str) b [], 6) := by
  cases b <;> exact stC (dr hc 4 2 rfl (by decide)) (stB hb (stC (dr hc 5 4 rfl (by decide)) (stL (f_m (k := 6) (tb := tbX p) (drw_pos (p := p) (k := 5) (by decide))) stR)))
theorem pl_C {a d : Str} {ps r1 r2 : D} {b w : Bool} (hc : p.cells.length ≤ 100) (hb : (drw p 6 2 == 1) = b) : (plB p (⟨#[67]⟩ : Str) (plQ (unD4 a d) ps [((⟨#[65]⟩ : Str), r1), ((⟨#[66]⟩ : Str), r2)] (⟨#[66]⟩ : Str) w []) 6).run (clN p (n + 1)) = some (.nxt, plQ (unD4 a d) ps [((⟨#[65]⟩ : Str), r1), ((⟨#[66]⟩ : Str), r2), ((⟨#[67]⟩ : Str), rowD ⟨a, [], b, mkOf (drw p 7 4)⟩)] (⟨#[67]⟩ : Str) b [], 8) := by
  cases b <;> exact stC (dr hc 6 2 rfl (by decide)) (stB hb (stC (dr hc 7 4 rfl (by decide)) (stL (f_m (k := 8) (tb := tbX p) (drw_pos (p := p) (k := 7) (by decide))) stR)))
theorem pl_D {a d : Str} {ps : List Str} {r1 r2 r3 : D} {b w : Bool} (hc : p.cells.length ≤ 100) (hb : (drw p 8 2 == 1) = b) : (plB p (⟨#[68]⟩ : Str) (plQ (unD4 a d) (.tup (ps.map .str)) [((⟨#[65]⟩ : Str), r1), ((⟨#[66]⟩ : Str), r2), ((⟨#[67]⟩ : Str), r3)] (⟨#[67]⟩ : Str) w []) 8).run (clN p (n + 1)) = some (.nxt, plQ (unD4 a d) (.tup (ps.map .str)) (planQ r1 r2 r3 (rowD ⟨d, ps, b && ps.isEmpty, mkOf (drw p 9 4)⟩)) (⟨#[68]⟩ : Str) (b && ps.isEmpty) [], 10) := by
  cases b <;> cases ps <;> exact stC (dr hc 8 2 rfl (by decide)) (stB hb (stC (dr hc 9 4 rfl (by decide)) (stL (f_m (k := 10) (tb := tbX p) (drw_pos (p := p) (k := 9) (by decide))) stR)))
theorem pl_7 {r1 r2 r3 r4 : Row} {ALL : List (List Str)} {u ps : D} {w : Bool} {k : Nat} (hc : p.cells.length ≤ 100) (hk : k + ALL.length ≤ 20) (hA : ALL = all1 ∨ ALL = all2) : PlanGoal p r1 r2 r3 r4 ALL (((evSs (plG p) (N_law_plan.1.body.drop 7) (plQ u ps (planP r1 r2 r3 r4) (⟨#[68]⟩ : Str) w [((⟨#[108, 111, 116, 115]⟩ : Str), true, .lst (ALL.map lotD)), ((⟨#[105, 116, 101, 109, 115]⟩ : Str), true, .lst []), ((⟨#[115, 116, 97, 110, 100, 115]⟩ : Str), true, .lst [])]) k).bind outM).run (clN p (n + 1))) := by
  have hA4 : ALL.length ≤ 4 := by rcases hA with rfl | rfl <;> decide
  refine sqWP (wh_len (fun m vs k => ∃ L done w X, vs = plQ u ps (planP r1 r2 r3 r4) (⟨#[68]⟩ : Str) w (((⟨#[108, 111, 116, 115]⟩ : Str), true, .lst (L.map lotD)) :: ((⟨#[105, 116, 101, 109, 115]⟩ : Str), true, .lst (done.map (itemOf (rOf r1 r2 r3 r4)))) :: ((⟨#[115, 116, 97, 110, 100, 115]⟩ : Str), true, .lst (done.flatten.map .str)) :: X) ∧ (X = [] ∨ ∃ a b c d, X = [((⟨#[108, 111, 116]⟩ : Str), false, a), ((⟨#[112, 97, 114, 101, 110, 116]⟩ : Str), false, b), ((⟨#[97, 98, 111, 118, 101]⟩ : Str), false, c), ((⟨#[109, 97, 114, 107]⟩ : Str), false, d)]) ∧
    (L, done) ∈ poss ALL (ALL.length - m) ∧ L.length = m ∧ done.length + m = ALL.length ∧ done.flatten.length ≤ 4 * done.length ∧ (∀ lot ∈ L, lot ∈ ALL) ∧ k + m ≤ 20) ?_ ?_ ?_ (m := ALL.length) (Nat.lt_of_le_of_lt hA4 (by decide)) ⟨ALL, [], w, [], rfl, .inl rfl, by rw [Nat.sub_self]; exact List.mem_cons_self, rfl, Nat.zero_add _, Nat.le_refl _, fun _ h => h, hk⟩)
  · rintro vs k ⟨L, done, w, X, rfl, hX, h1, h2, h3, h4, h5, h6⟩
    have := List.length_eq_zero_iff.mp h2
    subst this
    rcases hX with rfl | ⟨a, b, c, d, rfl⟩ <;> exact stR
  · rintro m vs k ⟨L, done, w, X, rfl, hX, h1, h2, h3, h4, h5, h6⟩
    have hm3 : m + 1 ≤ 4 := Nat.le_trans (Nat.le_trans (Nat.le_add_left _ _) (Nat.le_of_eq h3)) hA4
    have hw : (0 : Int) < ((m + 1 : Nat) : Int) := Int.ofNat_lt.mpr (Nat.succ_pos m)
    obtain ⟨dl, dh⟩ := drw_pos (p := p) (k := k) hw
    have hcall : clN p (n + 1) (⟨#[95, 108, 97, 119, 95, 100, 114, 97, 119]⟩ : Str) [.feed, .int ((m + 1 : Nat) : Int)] k = some (.int (drw p k ((m + 1 : Nat) : Int)), k + 1) := c_draw hc (Nat.le_trans (Nat.le_trans (Nat.le_add_right _ _) h6) (Nat.le_of_ble_eq_true rfl)) hw
    generalize drw p k ((m + 1 : Nat) : Int) = dd at *
    have hx : dd.toNat < L.length := by rw [h2]; exact (Int.toNat_lt dl).mpr dh
    obtain ⟨x, xs, hlot, hxs, hPx⟩ := plan_lk (r1 := r1) (r2 := r2) (r3 := r3) (r4 := r4) (ALL := ALL) hA (h5 _ (List.getElem_mem hx))
    have hget : L[dd.toNat]? = some (x :: xs) := by rw [List.getElem?_eq_getElem hx, hlot]
    have hPx : subF (tbX p) (k + 1) (.dct (planP r1 r2 r3 r4)) (.str x) = some (rowD (rOf r1 r2 r3 r4 x)) := hPx
    have hgetD : (L.map lotD)[dd.toNat]? = some (lotD (x :: xs)) := by rw [List.getElem?_map, hget]; rfl
    have hstep := poss_step h1 hget
    rw [show ALL.length - (m + 1) + 1 = ALL.length - m by omega] at hstep
    have hne : (!L.isEmpty) = true := by
      cases L with
      | nil => exact absurd hx (Nat.not_lt_zero _)
      | cons a b => rfl
    have hlen : (L.map lotD).length = m + 1 := by rw [List.length_map, h2]
    have a1 : decide ((L.map lotD).length ≤ lim) = true := limN (m := 4) (by rw [hlen]; exact hm3) rfl
    have a2 : decide (0 ≤ dd ∧ dd < ((L.map lotD).length : Int)) = true := decide_eq_true ⟨dl, by rw [hlen]; exact dh⟩
    have a3 : decide ((done.map (itemOf (rOf r1 r2 r3 r4))).length ≤ lim) = true := limD (m := 4) (by rw [List.length_map]; omega) rfl
    have a4 : decide ((done.flatten.map D.str).length ≤ lim) = true := limD (m := 16) (by rw [List.length_map]; omega) rfl
    have a5 : decide ((done.flatten.map D.str).length + ((x :: xs).map D.str).length ≤ lim) = true := limN (m := 20) (by rw [List.length_map, List.length_map, List.length_cons]; omega) rfl
    rw [← hlen] at hcall
    refine ⟨k, ?_, .nxt, plQ u ps (planP r1 r2 r3 r4) (⟨#[68]⟩ : Str) (rOf r1 r2 r3 r4 x).whole (((⟨#[108, 111, 116, 115]⟩ : Str), true, .lst ((L.eraseIdx dd.toNat).map lotD)) :: ((⟨#[105, 116, 101, 109, 115]⟩ : Str), true, .lst ((done ++ [x :: xs]).map (itemOf (rOf r1 r2 r3 r4)))) :: ((⟨#[115, 116, 97, 110, 100, 115]⟩ : Str), true, .lst ((done ++ [x :: xs]).flatten.map .str)) :: [((⟨#[108, 111, 116]⟩ : Str), false, lotD (x :: xs)), ((⟨#[112, 97, 114, 101, 110, 116]⟩ : Str), false, .str (rOf r1 r2 r3 r4 x).par), ((⟨#[97, 98, 111, 118, 101]⟩ : Str), false, .tup ((rOf r1 r2 r3 r4 x).parts.map .str)), ((⟨#[109, 97, 114, 107]⟩ : Str), false, .str (rOf r1 r2 r3 r4 x).mark)]), k + 1, ?_, .inl rfl, L.eraseIdx dd.toNat, done ++ [x :: xs], _, _, rfl, .inr ⟨_, _, _, _, rfl⟩, hstep, by rw [List.length_eraseIdx_of_lt hx, h2]; rfl, by rw [List.length_append]; simp only [List.length_cons, List.length_nil]; omega, ?_, fun lot h => h5 lot (List.mem_of_mem_eraseIdx h), by omega⟩
    · rcases hX with rfl | ⟨a, b, c, d, rfl⟩ <;> exact runE hne (stO (neNilG lotD L) stR)
    · rw [← eraseMap, List.map_append, List.flatten_append, List.map_append, show [x :: xs].flatten = x :: xs from List.append_nil _]
      rcases hX with rfl | ⟨a, b, c, d, rfl⟩ <;> exact stA a1 (stA a1 (stC hcall (stA a2 (stO hgetD (stLn hPx 1 (stA a3 (stA a4 (stA a5 stR))))))))
    · rw [List.flatten_append, List.length_append, List.length_append, show [x :: xs].flatten = x :: xs from List.append_nil _]
      simp only [List.length_cons, List.length_nil]
      omega
  · rintro vs k ⟨L, done, w, X, rfl, hX, h1, h2, h3, h4, h5, h6⟩
    have := List.length_eq_zero_iff.mp h2
    subst this
    rcases hX with rfl | ⟨a, b, c, d, rfl⟩ <;> exact ⟨done, k, stR, h1⟩
theorem c_plan (hc : p.cells.length ≤ 100) : (cAA p = true ∧ PlanGoal p (rA p) (rB p) (rB p) (rD' p) all2 (clN p (n + 2) (⟨#[95, 108, 97, 119, 95, 112, 108, 97, 110]⟩ : Str) [.feed] 0)) ∨ PlanGoal p (rA p) (rB p) (rC p) (rD' p) all1 (clN p (n + 2) (⟨#[95, 108, 97, 119, 95, 112, 108, 97, 110]⟩ : Str) [.feed] 0) := by
  have main : ∀ P : Option (D × Nat) → Prop, P (((evSs (plG p) (N_law_plan.1.body.drop 5) (plQ (unD4 (cPar (drw p 0 2)) (dPar (drw p 1 7))) (.tup ((dParts (drw p 1 7)).map .str)) (planQ (rowD (rA p)) (rowD (rB p)) (rowD (rC p)) (rowD (rD' p))) (⟨#[68]⟩ : Str) (rD' p).whole [((⟨#[108, 111, 116, 115]⟩ : Str), true, .lst (all1.map lotD))]) 10).bind outM).run (clN p (n + 1))) → P (clN p (n + 2) (⟨#[95, 108, 97, 119, 95, 112, 108, 97, 110]⟩ : Str) [.feed] 0) := fun P h =>
    fnP N_law_plan.1 (plE []) (sqP (vs' := plE [((⟨#[117, 110, 100, 101, 114]⟩ : Str), true, .dct [((⟨#[65]⟩ : Str), .str (⟨#[]⟩ : Str)), ((⟨#[66]⟩ : Str), .str (⟨#[65]⟩ : Str)), ((⟨#[67]⟩ : Str), .str (cPar (drw p 0 2)))])]) (k' := 1) (stC (dr hc 0 2 rfl (by decide)) (stL (f_c (k := 1) (tb := tbX p) (drw_pos (p := p) (k := 0) (by decide))) stR))
      (sqP (vs' := plE [((⟨#[117, 110, 100, 101, 114]⟩ : Str), true, unD4 (cPar (drw p 0 2)) (dPar (drw p 1 7))), ((⟨#[112, 97, 114, 116, 115]⟩ : Str), false, .tup ((dParts (drw p 1 7)).map .str))]) (k' := 2) (stC (dr hc 1 7 rfl (by decide)) (stL (f_d (k := 2) (tb := tbX p) (drw_pos (p := p) (k := 1) (by decide))) stR))
      (sqP (vs' := plE [((⟨#[117, 110, 100, 101, 114]⟩ : Str), true, unD4 (cPar (drw p 0 2)) (dPar (drw p 1 7))), ((⟨#[112, 97, 114, 116, 115]⟩ : Str), false, .tup ((dParts (drw p 1 7)).map .str)), ((⟨#[112, 108, 97, 110]⟩ : Str), true, .dct [])]) (k' := 2) stR
      (sqFP (k' := 2) (l := [.str (⟨#[65]⟩ : Str), .str (⟨#[66]⟩ : Str), .str (⟨#[67]⟩ : Str), .str (⟨#[68]⟩ : Str)]) stR rfl
        (forC (pl_A hc rfl) (forC (pl_B hc rfl) (forC (pl_C hc rfl) (forC (pl_D hc rfl) (sqP (vs' := plQ (unD4 (cPar (drw p 0 2)) (dPar (drw p 1 7))) (.tup ((dParts (drw p 1 7)).map .str)) (planQ (rowD (rA p)) (rowD (rB p)) (rowD (rC p)) (rowD (rD' p))) (⟨#[68]⟩ : Str) (rD' p).whole [((⟨#[108, 111, 116, 115]⟩ : Str), true, .lst (all1.map lotD))]) (k' := 10) stR h)))))))))
  have hd := dr (n := n) hc 10 2 rfl (by decide)
  cases q : cAA p with
  | true =>
    unfold cAA at q
    rw [Bool.and_eq_true] at q
    exact .inl ⟨rfl, main _ (sqP (vs' := plQ (unD4 (cPar (drw p 0 2)) (dPar (drw p 1 7))) (.tup ((dParts (drw p 1 7)).map .str)) (planP (rA p) (rB p) (rB p) (rD' p)) (⟨#[68]⟩ : Str) (rD' p).whole [((⟨#[108, 111, 116, 115]⟩ : Str), true, .lst (all2.map lotD))]) (k' := 11) (stC hd (stB q.1 (stB q.2 stR))) (sqP (vs' := plQ (unD4 (cPar (drw p 0 2)) (dPar (drw p 1 7))) (.tup ((dParts (drw p 1 7)).map .str)) (planP (rA p) (rB p) (rB p) (rD' p)) (⟨#[68]⟩ : Str) (rD' p).whole [((⟨#[108, 111, 116, 115]⟩ : Str), true, .lst (all2.map lotD)), ((⟨#[105, 116, 101, 109, 115]⟩ : Str), true, .lst []), ((⟨#[115, 116, 97, 110, 100, 115]⟩ : Str), true, .lst [])]) (k' := 11) stR (pl_7 hc (by decide) (.inr rfl))))⟩
  | false =>
    unfold cAA at q
    refine .inr (main _ (sqP (vs' := plQ (unD4 (cPar (drw p 0 2)) (dPar (drw p 1 7))) (.tup ((dParts (drw p 1 7)).map .str)) (planP (rA p) (rB p) (rC p) (rD' p)) (⟨#[68]⟩ : Str) (rD' p).whole [((⟨#[108, 111, 116, 115]⟩ : Str), true, .lst (all1.map lotD))]) (k' := 11) ?_ (sqP (vs' := plQ (unD4 (cPar (drw p 0 2)) (dPar (drw p 1 7))) (.tup ((dParts (drw p 1 7)).map .str)) (planP (rA p) (rB p) (rC p) (rD' p)) (⟨#[68]⟩ : Str) (rD' p).whole [((⟨#[108, 111, 116, 115]⟩ : Str), true, .lst (all1.map lotD)), ((⟨#[105, 116, 101, 109, 115]⟩ : Str), true, .lst []), ((⟨#[115, 116, 97, 110, 100, 115]⟩ : Str), true, .lst [])]) (k' := 11) stR (pl_7 hc (by decide) (.inl rfl)))))
    cases q1 : drw p 10 2 == 1 with
    | false => exact stC hd (stB q1 stR)
    | true =>
      rw [q1, Bool.true_and] at q
      exact stC hd (stB q1 (stB q stR))
end
end Mine

-- C16
namespace Mine
section
variable {p : Par} {n k : Nat} {R : Str → Row} {vs : Vars}
theorem lk_none {α : Type} {x : Str} : ∀ {l : List (Str × α)}, x ∉ l.map (·.1) → l.lookup x = none
  | [], _ => rfl
  | (y, d) :: r, h => by
    rw [List.map_cons, List.mem_cons, not_or] at h
    rw [List.lookup_cons, show (x == y) = false from beq_false_of_ne h.1]
    exact lk_none h.2
theorem ds_app {x : Str} {d : D} : ∀ {l : List (Str × D)}, x ∉ l.map (·.1) → dset x d l = l ++ [(x, d)]
  | [], _ => rfl
  | (y, e) :: r, h => by
    rw [List.map_cons, List.mem_cons, not_or] at h
    unfold dset
    rw [if_neg (Ne.symm h.1), ds_app h.2]
    rfl
noncomputable def entOf (it : D) (lot : List Str) : List (Str × D) := lot.map fun nm => (nm, it)
noncomputable def TakeP (E : List (Str × D)) (s : List Str) (k : Nat) (o : Option (Fl × Vars × Nat)) : Prop := ∃ vs₂ : Vars, o = some (.nxt, vs₂, k) ∧ vs₂.lookup (⟨#[37, 101]⟩ : Str) = some (true, .dct E) ∧ vs₂.lookup (⟨#[37, 115]⟩ : Str) = some (true, .lst (s.map .str))
noncomputable def tkV (it : D) (E : List (Str × D)) (s : List Str) (X : Vars) : Vars := ((⟨#[105, 116, 101, 109]⟩ : Str), false, it) :: ((⟨#[37, 101]⟩ : Str), true, .dct E) :: ((⟨#[37, 115]⟩ : Str), true, .lst (s.map .str)) :: X
theorem take_body {lot : List Str} {r : Row} {E : List (Str × D)} {s : List Str} (hl : lot.length ≤ 10) (hE : E.length ≤ 10) (hs : s.length ≤ 10) (hp : r.parts.length ≤ 4) (hw : r.parts ≠ [] → r.whole = false) (hn : ((E ++ entOf (itD (lotD lot) r) lot).map (·.1)).Nodup) :
    TakeP (E ++ entOf (itD (lotD lot) r) lot) (s ++ lot) k ((evSs (evK (tbX p) p.CS noTk N_Signatures_take_sig.1.sc 20) (N_Signatures_take_sig.1.body.drop 0) (tkV (itD (lotD lot) r) E s []) k).run (clN p n)) := by
  generalize hEF : E ++ entOf (itD (lotD lot) r) lot = EF at hn ⊢
  rw [← runRet]
  refine sqX (B := evSs (evK (tbX p) p.CS noTk N_Signatures_take_sig.1.sc 19) (fB (stAt N_Signatures_take_sig.1.body 0))) (bind := bindT N_Signatures_take_sig.1.sc (fT (stAt N_Signatures_take_sig.1.body 0))) (l := lot.map .str) (k' := k) (stL (o := subF (tbX p) k (itD (lotD lot) r) (.int 2)) (r := lotD lot) rfl (stE rfl)) ?_
  refine for_then (fun rem vs k' => k' = k ∧ ∃ (os : List Str) (E' : List (Str × D)) (s' : List Str) (X : Vars), vs = tkV (itD (lotD lot) r) E' s' X ∧ (X = [] ∨ ∃ d, X = [((⟨#[110, 97, 109, 101]⟩ : Str), false, d)]) ∧ rem = os.map .str ∧ E' ++ entOf (itD (lotD lot) r) os = EF ∧ s' ++ os = s ++ lot ∧ s'.length + os.length ≤ 20 ∧ E'.length + os.length ≤ 20) (P := TakeP EF (s ++ lot) k) ?_ ?_ ⟨rfl, lot, E, s, [], rfl, .inl rfl, rfl, hEF, rfl, Nat.add_le_add hs hl, Nat.add_le_add hE hl⟩
  · rintro d rem vs k' ⟨rfl, os, E', s', X, rfl, hX, e1, e2, e3, e5, e6⟩
    cases os with
    | nil => cases e1
    | cons nm os =>
      cases e1
      have hfr : nm ∉ E'.map (·.1) := by
        rw [← e2, List.map_append, List.nodup_append] at hn
        exact fun hm => hn.2.2 nm hm nm List.mem_cons_self rfl
      have h1 := isN (lk_none hfr)
      have z1 : decide (E'.length ≤ lim) = true := limN (m := 20) (Nat.le_trans (Nat.le_add_right _ _) e6) rfl
      have z2 : decide ((s'.map D.str).length ≤ lim) = true := limD (m := 20) (by rw [List.length_map]; exact Nat.le_trans (Nat.le_add_right _ _) e5) rfl
      have e0 : entOf (itD (lotD lot) r) (nm :: os) = [(nm, itD (lotD lot) r)] ++ entOf (itD (lotD lot) r) os := rfl
      rw [e0, ← List.append_assoc] at e2
      rw [show nm :: os = [nm] ++ os from rfl, ← List.append_assoc] at e3
      rw [List.length_cons, Nat.add_comm os.length 1, ← Nat.add_assoc] at e5 e6
      refine ⟨.nxt, tkV (itD (lotD lot) r) (E' ++ [(nm, itD (lotD lot) r)]) (s' ++ [nm]) [((⟨#[110, 97, 109, 101]⟩ : Str), false, .str nm)], k', ?_, .inl rfl, rfl, os, E' ++ [(nm, itD (lotD lot) r)], s' ++ [nm], _, rfl, .inr ⟨_, rfl⟩, rfl, e2, e3, by rw [List.length_append]; exact e5, by rw [List.length_append]; exact e6⟩
      rw [← ds_app hfr]
      unfold tkV
      rw [List.map_append]
      rcases hX with rfl | ⟨d, rfl⟩ <;> exact stA z1 (stA h1 (stA z1 (stA z2 stR)))
  · rintro vs k' ⟨rfl, os, E', s', X, rfl, hX, e1, e2, e3, e5, e6⟩
    cases os with
    | cons a b => cases e1
    | nil =>
      have e2 : E' = EF := (List.append_nil _).symm.trans e2
      have e3 : s' = s ++ lot := (List.append_nil _).symm.trans e3
      subst e2 e3
      refine ⟨tkV (itD (lotD lot) r) E' (s ++ lot) X, ?_, by kernel_rfl, by kernel_rfl⟩
      by_cases q : r.parts = []
      · have z : decide ((0 : Int) < (r.parts.map D.str).length) = false := by rw [q]; rfl
        rcases hX with rfl | ⟨d, rfl⟩ <;> exact stA (lim4 hp) (stB z stR)
      · have z : decide ((0 : Int) < (r.parts.map D.str).length) = true := posD q
        have w := hw q
        rcases hX with rfl | ⟨d, rfl⟩ <;> exact stA (lim4 hp) (stB z (stB w stR))
theorem tk_ok {lot : List Str} {r : Row} {E : List (Str × D)} {s : List Str} (hl : lot.length ≤ 10) (hE : E.length ≤ 10) (hs : s.length ≤ 10) (hp : r.parts.length ≤ 4) (hw : r.parts ≠ [] → r.whole = false) (hn : ((E ++ entOf (itD (lotD lot) r) lot).map (·.1)).Nodup)
    (h1 : vs.lookup (⟨#[37, 101]⟩ : Str) = some (true, .dct E)) (h2 : vs.lookup (⟨#[37, 115]⟩ : Str) = some (true, .lst (s.map .str))) (h3 : ownsES vs = true) :
    (tkSig (tbX p) p.CS N_Signatures_take_sig.1.sc (⟨#[105, 116, 101, 109]⟩ : Str) N_Signatures_take_sig.1.body (⟨#[116, 97, 107, 101, 95, 115, 105, 103]⟩ : Str) (itD (lotD lot) r) vs k).run (clN p n) = some (vset (⟨#[37, 101]⟩ : Str) true (.dct (E ++ entOf (itD (lotD lot) r) lot)) (vset (⟨#[37, 115]⟩ : Str) true (.lst ((s ++ lot).map .str)) vs), k) := by
  obtain ⟨vs₂, b1, b2, b3⟩ := take_body (p := p) (n := n) (k := k) hl hE hs hp hw hn
  unfold tkSig
  rw [h1, h2, h3]
  show (cond (decide (E.length ≤ lim)) (cond (decide ((s.map D.str).length ≤ lim)) (M.run _ (M.bind _ _)) none) none) = _
  rw [limN (m := 10) hE rfl, limD (m := 10) (by rw [List.length_map]; exact hs) rfl]
  show M.run _ (M.bind (evSs _ _ _ _) _) = _
  rw [M.run_bind]
  refine (congrArg (fun o => Option.bind o _) b1).trans ?_
  show M.run _ (M.bind (ownV (vs₂.lookup _)) _) = _
  rw [b2]
  show M.run _ (M.bind (ownV (vs₂.lookup _)) _) = _
  rw [b3]
  rfl
end
end Mine

-- C17
namespace Mine
section
variable {p : Par} {n k : Nat} {R : Str → Row} {vs : Vars}
theorem nom_of {l : List (Str × D)} (h : (l.map (·.1)).all (fun q => (methS.lookup q).isNone) = true) : ∀ m, (methS.lookup m).isSome = true → (l.lookup m).isNone = true := fun m hm => isN (lk_none fun hk => by
  have := List.all_eq_true.mp h m hk
  cases q : methS.lookup m with
  | none => rw [q] at hm; cases hm
  | some _ => rw [q] at this; cases this)
noncomputable def entAll (R : Str → Row) (done : List (List Str)) : List (Str × D) := done.flatMap fun lot => entOf (itemOf R lot) lot
theorem noDct_item {lot : List Str} {r : Row} {n : Nat} : noDct (n + 3) (itD (lotD lot) r) = true := by
  have h : ∀ l : List Str, (l.map D.str).all (noDct (n + 1)) = true := fun l => by
    rw [List.all_map, List.all_eq_true]
    exact fun _ _ => rfl
  show (true && (true && ((lot.map D.str).all (noDct (n + 1)) && (true && (true && (true && ((r.parts.map D.str).all (noDct (n + 1)) && (true && (true && true))))))))) = true
  rw [h, h]
  rfl
structure Lots (R : Str → Row) (done : List (List Str)) : Prop where
  len : done.length ≤ 10
  fl : done.flatten.length ≤ 10
  ne : ∀ lot ∈ done, (R (lot.headD (⟨#[]⟩ : Str))).parts.length ≤ 4 ∧ ((R (lot.headD (⟨#[]⟩ : Str))).parts ≠ [] → (R (lot.headD (⟨#[]⟩ : Str))).whole = false)
  nd : done.flatten.Nodup
theorem entAll_keys : ∀ (done : List (List Str)), (entAll R done).map (·.1) = done.flatten
  | [] => rfl
  | lot :: r => by
    unfold entAll
    rw [List.flatMap_cons, List.map_append, List.flatten_cons]
    have := entAll_keys r
    unfold entAll at this
    rw [this]
    unfold entOf
    rw [List.map_map]
    exact congrArg (· ++ r.flatten) (List.map_id lot)
theorem sigGo_run {tb : Tb} {cl : Cl} {C : Addr} {sets : Str → Bool} {scI scT : Kinds} {pI pT : Str} {bodyT : List Stmt} {items items' : D} {st4 : Stmt} {rest : List Stmt} {v1 v2 : Vars} {k1 k2 : Nat} {e l : List (Str × D)} {ss : List D} (h0 : noDct 6 items = true)
    (h1 : (evK tb C (tkSig tb C scT pT bodyT) scI 20 st4 [(pI, false, items), ((⟨#[37, 101]⟩ : Str), true, .dct []), ((⟨#[37, 115]⟩ : Str), true, .lst [])] k).run cl = some (.nxt, v1, k1)) (l1 : v1.lookup (⟨#[37, 101]⟩ : Str) = some (true, .dct e)) (l2 : v1.lookup (⟨#[37, 115]⟩ : Str) = some (true, .lst ss)) (l3 : v1.lookup pI = some (false, items'))
    (d1 : e.all (fun p => noDct 6 p.2) = true) (d2 : ss.all (noDct 6) = true) (d3 : noDct 6 items' = true)
    (h2 : (evSs (evM tb C sets scI 20) rest [(pI, false, items'), ((⟨#[37, 100]⟩ : Str), true, .dct [((⟨#[101, 110, 116, 114, 105, 101, 115]⟩ : Str), .dct e), ((⟨#[115, 116, 97, 110, 100, 115]⟩ : Str), .lst ss), ((⟨#[111, 112, 101, 110, 101, 100]⟩ : Str), .lst [])])] k1).run cl = some (.nxt, v2, k2)) (l4 : v2.lookup (⟨#[37, 100]⟩ : Str) = some (true, .dct l)) :
    (sigGo tb C sets scI scT pI pT bodyT items k st4 rest).run cl = some (l, k2) := by
  show cond (noDct 6 items) (M.run _ (M.bind (evK _ _ _ _ _ _ _ _) _)) none = _
  rw [h0]
  show M.run _ (M.bind (evK _ _ _ _ _ _ _ _) _) = _
  rw [M.run_bind]
  refine (congrArg (fun o => Option.bind o _) h1).trans ?_
  show M.run _ (M.bind (dctV (v1.lookup _)) _) = _
  rw [l1]
  show M.run _ (M.bind (lstV (v1.lookup _)) _) = _
  rw [l2]
  show M.run _ (M.bind (frzV (v1.lookup _)) _) = _
  rw [l3]
  show cond (e.all _) (cond (ss.all _) (cond (noDct 6 items') (M.run _ (M.bind (evSs _ _ _ _) _)) none) none) none = _
  rw [d1, d2, d3]
  show M.run _ (M.bind (evSs _ _ _ _) _) = _
  rw [M.run_bind]
  refine (congrArg (fun o => Option.bind o _) h2).trans ?_
  show M.run _ (M.bind (dctV (v2.lookup _)) _) = _
  rw [l4]
  rfl
theorem flatS {xs : List Str} : flat (.lst (xs.map .str)) = true := by
  show (allStr (xs.map .str)).isSome = true
  rw [asMap]; rfl
noncomputable def sgV (R : Str → Row) (done : List (List Str)) (E : List (Str × D)) (s : List Str) (X : Vars) : Vars := ((⟨#[105, 116, 101, 109, 115]⟩ : Str), false, .lst (done.map (itemOf R))) :: ((⟨#[37, 101]⟩ : Str), true, .dct E) :: ((⟨#[37, 115]⟩ : Str), true, .lst (s.map .str)) :: X
noncomputable def sgL (R : Str → Row) (done : List (List Str)) (X : List (Str × D)) : List (Str × D) := ((⟨#[101, 110, 116, 114, 105, 101, 115]⟩ : Str), .dct (entAll R done)) :: ((⟨#[115, 116, 97, 110, 100, 115]⟩ : Str), .lst (done.flatten.map .str)) :: ((⟨#[111, 112, 101, 110, 101, 100]⟩ : Str), .lst []) :: X
noncomputable def sgW (R : Str → Row) (done : List (List Str)) (X : List (Str × D)) (Y : Vars) : Vars := ((⟨#[105, 116, 101, 109, 115]⟩ : Str), false, .lst (done.map (itemOf R))) :: ((⟨#[37, 100]⟩ : Str), true, .dct (sgL R done X)) :: Y
noncomputable abbrev siB : List Stmt := N_Signatures_init.1.body
noncomputable abbrev siS : Kinds := N_Signatures_init.1.sc
noncomputable abbrev tkS (p : Par) : TkF := tkSig (tbX p) p.CS N_Signatures_take_sig.1.sc (⟨#[105, 116, 101, 109]⟩ : Str) N_Signatures_take_sig.1.body
noncomputable def SgA (R : Str → Row) (done : List (List Str)) (k : Nat) (o : Option (Fl × Vars × Nat)) : Prop := ∃ v1 : Vars, o = some (Fl.nxt, v1, k) ∧ v1.lookup (⟨#[37, 101]⟩ : Str) = some (true, .dct (entAll R done)) ∧ v1.lookup (⟨#[37, 115]⟩ : Str) = some (true, .lst (done.flatten.map .str)) ∧ v1.lookup (⟨#[105, 116, 101, 109, 115]⟩ : Str) = some (false, .lst (done.map (itemOf R)))
noncomputable def SgB (R : Str → Row) (done : List (List Str)) (f : List Str) (k : Nat) (o : Option (Fl × Vars × Nat)) : Prop := ∃ v2 : Vars, o = some (Fl.nxt, v2, k) ∧ v2.lookup (⟨#[37, 100]⟩ : Str) = some (true, .dct (sgL R done [((⟨#[111, 114, 100, 101, 114, 101, 100]⟩ : Str), .lst (f.map .str)), ((⟨#[111, 119, 110, 95, 102, 105, 101, 108, 100, 115]⟩ : Str), .lst [])]))
theorem c_signatures {done : List (List Str)} (L : Lots R done) {names : List Str} (H : EntOk names (entAll R done) R) (hst : ∀ o ∈ done.flatten, o ∈ names) {f w : List Str} (hi : iter (pfStep R) 64 ([], done.flatten) = some (f, w)) (hf : ∀ o ∈ f, o ∈ names) (hfl : f.length ≤ 20) :
    ∃ l, clN p (n + 4) (⟨#[83, 105, 103, 110, 97, 116, 117, 114, 101, 115]⟩ : Str) [.lst (done.map (itemOf R))] k = some (.obj p.CS l, k) ∧ SgOk l (entAll R done) ∧ l.lookup (⟨#[115, 116, 97, 110, 100, 115]⟩ : Str) = some (.lst (done.flatten.map .str)) ∧ l.lookup (⟨#[111, 114, 100, 101, 114, 101, 100]⟩ : Str) = some (.lst (f.map .str)) ∧ l.lookup (⟨#[111, 119, 110, 95, 102, 105, 101, 108, 100, 115]⟩ : Str) = some (.lst []) := by
  have hkl : (entAll R done).length ≤ 10 := by
    have := congrArg List.length (entAll_keys (R := R) done)
    rw [List.length_map] at this
    rw [this]; exact L.fl
  have hnd : noDct 6 (.lst (done.map (itemOf R))) = true := by
    show (done.map (itemOf R)).all (noDct 5) = true
    rw [List.all_map, List.all_eq_true]
    exact fun lot _ => noDct_item
  have hnd2 : (entAll R done).all (fun q => noDct 6 q.2) = true := by
    rw [List.all_eq_true]
    intro q hq
    obtain ⟨lot, _, hq⟩ := List.mem_flatMap.mp hq
    obtain ⟨x, _, rfl⟩ := List.mem_map.mp hq
    exact noDct_item
  have hnd3 : (done.flatten.map D.str).all (noDct 6) = true := by
    rw [List.all_map, List.all_eq_true]
    exact fun _ _ => rfl
  have hA : SgA R done k ((evK (tbX p) p.CS (tkS p) siS 20 (stAt siB 3) (sgV R done [] [] []) k).run (clN p (n + 3))) := by
    rw [show (evK (tbX p) p.CS (tkS p) siS 20 (stAt siB 3) (sgV R done [] [] []) k).run (clN p (n + 3)) = ((evFor (evSs (evK (tbX p) p.CS (tkS p) siS 19) (fB (stAt siB 3))) (bindT siS (fT (stAt siB 3))) (done.map (itemOf R)) (sgV R done [] [] []) k).bind M.ret).run (clN p (n + 3)) from runRet ▸ stE rfl]
    refine for_then (fun rem vs k' => k' = k ∧ ∃ (ds : List (List Str)) (E : List (Str × D)) (s : List Str) (X : Vars), vs = sgV R done E s X ∧ (X = [] ∨ ∃ d, X = [((⟨#[105, 116, 101, 109]⟩ : Str), false, d)]) ∧ rem = ds.map (itemOf R) ∧ (∀ lot ∈ ds, lot ∈ done) ∧ E ++ entAll R ds = entAll R done ∧ s ++ ds.flatten = done.flatten) ?_ ?_ ⟨rfl, done, [], [], [], rfl, .inl rfl, rfl, fun _ h => h, rfl, rfl⟩
    · rintro d rem vs k' ⟨rfl, ds, E, s, X, rfl, hX, e1, e2, e3, e4⟩
      cases ds with
      | nil => cases e1
      | cons lot ds =>
        cases e1
        have hlot := e2 lot List.mem_cons_self
        have hLne := L.ne lot hlot
        have hlen : s.length + (lot.length + ds.flatten.length) ≤ 10 := by
          have := congrArg List.length e4
          rw [List.length_append, List.flatten_cons, List.length_append] at this
          exact Nat.le_trans (Nat.le_of_eq this) L.fl
        have hlen1 : lot.length ≤ 10 := Nat.le_trans (Nat.le_trans (Nat.le_add_right _ _) (Nat.le_add_left _ _)) hlen
        have hlen2 : s.length ≤ 10 := Nat.le_trans (Nat.le_add_right _ _) hlen
        have hlen3 : E.length ≤ 10 := by
          have := congrArg List.length e3
          rw [List.length_append] at this
          exact Nat.le_trans (Nat.le_trans (Nat.le_add_right _ _) (Nat.le_of_eq this)) hkl
        have hcons : entAll R (lot :: ds) = entOf (itemOf R lot) lot ++ entAll R ds := List.flatMap_cons
        rw [hcons, ← List.append_assoc] at e3
        rw [List.flatten_cons, ← List.append_assoc] at e4
        have hn : ((E ++ entOf (itemOf R lot) lot).map (·.1)).Nodup := by
          have h := L.nd
          rw [← entAll_keys (R := R) done, ← e3, List.map_append, List.nodup_append] at h
          exact h.1
        have turn : ∀ X : Vars, (X = [] ∨ ∃ d, X = [((⟨#[105, 116, 101, 109]⟩ : Str), false, d)]) → OkP (fun vs k'' => k'' = k' ∧ ∃ (ds' : List (List Str)) (E : List (Str × D)) (s : List Str) (X : Vars), vs = sgV R done E s X ∧ (X = [] ∨ ∃ d, X = [((⟨#[105, 116, 101, 109]⟩ : Str), false, d)]) ∧ ds.map (itemOf R) = ds'.map (itemOf R) ∧ (∀ lot ∈ ds', lot ∈ done) ∧ E ++ entAll R ds' = entAll R done ∧ s ++ ds'.flatten = done.flatten) (((evSs (evK (tbX p) p.CS (tkS p) siS 19) ((fB (stAt siB 3)).drop 0) (sgV R done E s [((⟨#[105, 116, 101, 109]⟩ : Str), false, itemOf R lot)]) k').bind M.ret).run (clN p (n + 3))) := fun X hX => by
          have htk := tk_ok (p := p) (n := n + 3) (k := k') (vs := sgV R done E s [((⟨#[105, 116, 101, 109]⟩ : Str), false, itemOf R lot)]) hlen1 hlen3 hlen2 hLne.1 hLne.2 hn rfl rfl (by kernel_rfl)
          have st0 : (evK (tbX p) p.CS (tkS p) siS 19 (stAt (fB (stAt siB 3)) 0) (sgV R done E s [((⟨#[105, 116, 101, 109]⟩ : Str), false, itemOf R lot)]) k').run (clN p (n + 3)) = some (.nxt, sgV R done (E ++ entOf (itemOf R lot) lot) (s ++ lot) [((⟨#[105, 116, 101, 109]⟩ : Str), false, itemOf R lot)], k') :=
            (stL (o := subF (tbX p) k' (itemOf R lot) (.int 0)) (r := .str (⟨#[115, 105, 103]⟩ : Str)) rfl (stO (o := some (.bool true)) rfl (stB (b := true) rfl (stE (m' := (((tkS p) (⟨#[116, 97, 107, 101, 95, 115, 105, 103]⟩ : Str) (itemOf R lot) (sgV R done E s [((⟨#[105, 116, 101, 109]⟩ : Str), false, itemOf R lot)]) k').bind fun r => M.ret (Fl.nxt, r.1, r.2)).bind (thnM fun vs k => .ret (.nxt, vs, k))) (runB (runB htk rfl) (stR))))))
          exact sqP st0 ⟨.nxt, sgV R done (E ++ entOf (itemOf R lot) lot) (s ++ lot) [((⟨#[105, 116, 101, 109]⟩ : Str), false, itemOf R lot)], k', stR, .inl rfl, rfl, ds, _, _, _, rfl, .inr ⟨_, rfl⟩, rfl, fun l h => e2 l (List.mem_cons_of_mem _ h), e3, e4⟩
        rcases hX with rfl | ⟨d, rfl⟩
        · exact turnB (sgV R done E s [((⟨#[105, 116, 101, 109]⟩ : Str), false, itemOf R lot)]) (turn [] (.inl rfl))
        · exact turnB (sgV R done E s [((⟨#[105, 116, 101, 109]⟩ : Str), false, itemOf R lot)]) (turn [] (.inl rfl))
    · rintro vs k' ⟨rfl, ds, E, s, X, rfl, hX, e1, e2, e3, e4⟩
      cases ds with
      | cons a b => cases e1
      | nil =>
        have e3 : E = entAll R done := (List.append_nil _).symm.trans e3
        have e4 : s = done.flatten := (List.append_nil _).symm.trans e4
        subst e3 e4
        exact ⟨sgV R done (entAll R done) done.flatten X, rfl, by kernel_rfl, by kernel_rfl, by kernel_rfl⟩
  obtain ⟨v1, a1, a2, a3, a4⟩ := hA
  have S : ∀ X, (X.map (·.1)).all (fun q => (methS.lookup q).isNone) = true → SgOk (sgL R done X) (entAll R done) := fun X h => ⟨lk_eq, nom_of h⟩
  have S0 := S [] rfl
  have S1 := S [((⟨#[111, 114, 100, 101, 114, 101, 100]⟩ : Str), .lst (f.map .str))] (by kernel_rfl)
  have hst20 : done.flatten.length ≤ 20 := Nat.le_trans L.fl (Nat.le_of_ble_eq_true rfl)
  have d1 : ∀ o ∈ done.flatten, clN p (n + 3) (⟨#[83, 105, 103, 110, 97, 116, 117, 114, 101, 115, 46, 108, 111, 111, 107, 95, 97, 98, 111, 118, 101]⟩ : Str) [.obj p.CS (sgL R done []), .str o] k = some (.none, k) := fun o h => c_look_above S0 H (hst o h)
  have d2 : clN p (n + 3) (⟨#[83, 105, 103, 110, 97, 116, 117, 114, 101, 115, 46, 112, 97, 114, 101, 110, 116, 115, 95, 102, 105, 114, 115, 116]⟩ : Str) [.obj p.CS (sgL R done [])] k = some (.lst (f.map .str), k) := c_parents_first S0 H (by kernel_rfl) hst hst20 (Nat.le_refl _) hi
  have d3 : clN p (n + 3) (⟨#[83, 105, 103, 110, 97, 116, 117, 114, 101, 115, 46, 97, 108, 108, 95, 102, 105, 101, 108, 100, 115]⟩ : Str) [.obj p.CS (sgL R done [((⟨#[111, 114, 100, 101, 114, 101, 100]⟩ : Str), .lst (f.map .str))])] k = some (.lst [], k) := c_all_fields S1 H (by kernel_rfl) hf hfl
  have d4 : clN p (n + 3) (⟨#[83, 105, 103, 110, 97, 116, 117, 114, 101, 115, 46, 108, 111, 111, 107, 95, 102, 105, 101, 108, 100, 115]⟩ : Str) [.obj p.CS (sgL R done [((⟨#[111, 114, 100, 101, 114, 101, 100]⟩ : Str), .lst (f.map .str)), ((⟨#[111, 119, 110, 95, 102, 105, 101, 108, 100, 115]⟩ : Str), .lst [])])] k = some (.none, k) := c_look_fields (by kernel_rfl)
  have hB : SgB R done f k ((evSs (evM (tbX p) p.CS setS siS 20) (siB.drop 4) (sgW R done [] []) k).run (clN p (n + 3))) := by
    rw [← runRet]
    refine sqX (B := evSs (evM (tbX p) p.CS setS siS 19) (fB (stAt siB 4))) (bind := bindT siS (fT (stAt siB 4))) (l := done.flatten.map .str) (k' := k) (stA (b := true) rfl (stE rfl)) ?_
    refine for_each (fun vs k' => k' = k ∧ ∃ Y, vs = sgW R done [] Y ∧ (Y = [] ∨ ∃ d, Y = [((⟨#[110, 97, 109, 101]⟩ : Str), false, d)])) ⟨rfl, [], rfl, .inl rfl⟩ ?_ ?_
    · rintro d hd vs k' ⟨rfl, Y, rfl, hY⟩
      obtain ⟨o, ho, rfl⟩ := List.mem_map.mp hd
      refine ⟨.nxt, sgW R done [] [((⟨#[110, 97, 109, 101]⟩ : Str), false, .str o)], k', ?_, .inl rfl, rfl, _, rfl, .inr ⟨_, rfl⟩⟩
      rcases hY with rfl | ⟨d, rfl⟩ <;> exact stC (d1 o ho) stR
    · rintro vs k' ⟨rfl, Y, rfl, hY⟩
      refine (sqP (i := 5) (vs' := sgW R done [((⟨#[111, 114, 100, 101, 114, 101, 100]⟩ : Str), .lst (f.map .str))] Y) (k' := k') (stC d2 (stA (flatS (xs := f)) stR)) (sqP (vs' := sgW R done [((⟨#[111, 114, 100, 101, 114, 101, 100]⟩ : Str), .lst (f.map .str)), ((⟨#[111, 119, 110, 95, 102, 105, 101, 108, 100, 115]⟩ : Str), .lst [])] Y) (k' := k') (stC d3 stR) (sqP (vs' := sgW R done [((⟨#[111, 114, 100, 101, 114, 101, 100]⟩ : Str), .lst (f.map .str)), ((⟨#[111, 119, 110, 95, 102, 105, 101, 108, 100, 115]⟩ : Str), .lst [])] Y) (k' := k') (stC d4 stR)
        (sqX (B := evSs (evM (tbX p) p.CS setS siS 19) (fB (stAt siB 8))) (bind := bindT siS (fT (stAt siB 8))) (l := done.map (itemOf R)) (k' := k') (stE rfl) ?_))))
      refine for_each (fun vs k'' => k'' = k' ∧ ∃ Z, vs = sgW R done [((⟨#[111, 114, 100, 101, 114, 101, 100]⟩ : Str), .lst (f.map .str)), ((⟨#[111, 119, 110, 95, 102, 105, 101, 108, 100, 115]⟩ : Str), .lst [])] Z ∧ (Z = Y ∨ ∃ d, Z = Y ++ [((⟨#[105, 116, 101, 109]⟩ : Str), false, d)])) ⟨rfl, Y, rfl, .inl rfl⟩ ?_ ?_
      · rintro d hd vs k'' ⟨rfl, Z, rfl, hZ⟩
        obtain ⟨lot, ho, rfl⟩ := List.mem_map.mp hd
        refine ⟨.nxt, sgW R done [((⟨#[111, 114, 100, 101, 114, 101, 100]⟩ : Str), .lst (f.map .str)), ((⟨#[111, 119, 110, 95, 102, 105, 101, 108, 100, 115]⟩ : Str), .lst [])] (Y ++ [((⟨#[105, 116, 101, 109]⟩ : Str), false, itemOf R lot)]), k'', ?_, .inl rfl, rfl, _, rfl, .inr ⟨_, rfl⟩⟩
        rcases hY with rfl | ⟨d, rfl⟩ <;> rcases hZ with rfl | ⟨d', rfl⟩ <;> exact stR
      · rintro vs k'' ⟨rfl, Z, rfl, hZ⟩
        exact ⟨sgW R done [((⟨#[111, 114, 100, 101, 114, 101, 100]⟩ : Str), .lst (f.map .str)), ((⟨#[111, 119, 110, 95, 102, 105, 101, 108, 100, 115]⟩ : Str), .lst [])] Z, stR, by kernel_rfl⟩
  obtain ⟨v2, b1, b2⟩ := hB
  refine ⟨sgL R done [((⟨#[111, 114, 100, 101, 114, 101, 100]⟩ : Str), .lst (f.map .str)), ((⟨#[111, 119, 110, 95, 102, 105, 101, 108, 100, 115]⟩ : Str), .lst [])], ?_, S _ (by kernel_rfl), by kernel_rfl, by kernel_rfl, by kernel_rfl⟩
  have key : (sigInit (tbX p) p.CS setS siS N_Signatures_take_sig.1.sc (⟨#[105, 116, 101, 109, 115]⟩ : Str) (⟨#[105, 116, 101, 109]⟩ : Str) N_Signatures_take_sig.1.body (.lst (done.map (itemOf R))) k (viewI siB)).run (clN p (n + 3)) = some (sgL R done [((⟨#[111, 114, 100, 101, 114, 101, 100]⟩ : Str), .lst (f.map .str)), ((⟨#[111, 119, 110, 95, 102, 105, 101, 108, 100, 115]⟩ : Str), .lst [])], k) :=
    stE (m' := sigGo (tbX p) p.CS setS siS N_Signatures_take_sig.1.sc (⟨#[105, 116, 101, 109, 115]⟩ : Str) (⟨#[105, 116, 101, 109]⟩ : Str) N_Signatures_take_sig.1.body (.lst (done.map (itemOf R))) k (stAt siB 3) (siB.drop 4)) (sigGo_run hnd a1 a2 a3 a4 hnd2 hnd3 hnd b1 b2)
  have : fnsX.lookup (⟨#[83, 105, 103, 110, 97, 116, 117, 114, 101, 115]⟩ : Str) = none := by kernel_rfl
  rw [clN]
  simp only [this, if_true]
  rw [key]
  rfl
end
end Mine

-- C18
namespace Mine
section
variable {p : Par} {n k : Nat} {R : Str → Row} {vs : Vars}
theorem subGo_run {tb : Tb} {cl : Cl} {C : Addr} {sets : Str → Bool} {scO scN : Kinds} {pO pN : List Str} {bodyN : List Stmt} {args ds : List D} {es : List Expr} {rest : List Stmt} {v2 v3 : Vars} {k1 k2 k3 : Nat} {l1 l : List (Str × D)}
    (h1 : (evL (evE tb 40 scO (frozenV pO args ++ [((⟨#[37, 100]⟩ : Str), true, .dct [])])) k es).run cl = some (ds, k1)) (hl : decide (pN.length = ds.length) = true)
    (h2 : (evSs (evM tb C sets scN 20) bodyN (frozenV pN ds ++ [((⟨#[37, 100]⟩ : Str), true, .dct [])]) k1).run cl = some (.nxt, v2, k2)) (l2 : v2.lookup (⟨#[37, 100]⟩ : Str) = some (true, .dct l1))
    (h3 : (evSs (evM tb C sets scO 20) rest (frozenV pO args ++ [((⟨#[37, 100]⟩ : Str), true, .dct l1)]) k2).run cl = some (.nxt, v3, k3)) (l3 : v3.lookup (⟨#[37, 100]⟩ : Str) = some (true, .dct l)) :
    (subGo tb C sets scO scN pO pN bodyN args k es rest).run cl = some (l, k3) := by
  unfold subGo
  rw [M.run_bind]
  refine (congrArg (fun o => Option.bind o _) h1).trans ?_
  show M.run cl (M.gd (decide (pN.length = ds.length)) _) = _
  rw [hl]
  show M.run _ (M.bind (evSs _ _ _ _) _) = _
  rw [M.run_bind]
  refine (congrArg (fun o => Option.bind o _) h2).trans ?_
  show M.run _ (M.bind (dctV (v2.lookup _)) _) = _
  rw [l2]
  show M.run _ (M.bind (evSs _ _ _ _) _) = _
  rw [M.run_bind]
  refine (congrArg (fun o => Option.bind o _) h3).trans ?_
  show M.run _ (M.bind (dctV (v3.lookup _)) _) = _
  rw [l3]
  rfl
noncomputable def opnL0 (S its N : D) (X : List (Str × D)) : List (Str × D) := ((⟨#[115, 105, 103, 110, 97, 116, 117, 114, 101, 115]⟩ : Str), S) :: ((⟨#[107, 105, 110, 100, 115]⟩ : Str), .none) :: ((⟨#[105, 116, 101, 109, 115]⟩ : Str), its) :: ((⟨#[110, 117, 109, 98, 101, 114, 115]⟩ : Str), N) :: ((⟨#[99, 97, 108, 108, 115]⟩ : Str), .dct []) :: X
noncomputable def opnL (S its N : D) : List (Str × D) := opnL0 S its N [((⟨#[99, 111, 117, 110, 116]⟩ : Str), .int 0), ((⟨#[115, 112, 101, 110, 116]⟩ : Str), .int 0), ((⟨#[104, 101, 105, 103, 104, 116]⟩ : Str), .int 0), ((⟨#[112, 101, 97, 107]⟩ : Str), .int 0)]
noncomputable def opA (S its N : D) (l : List (Str × D)) (Y : Vars) : Vars := ((⟨#[115, 105, 103, 110, 97, 116, 117, 114, 101, 115]⟩ : Str), false, S) :: ((⟨#[107, 105, 110, 100, 115]⟩ : Str), false, .none) :: ((⟨#[105, 116, 101, 109, 115]⟩ : Str), false, its) :: ((⟨#[110, 117, 109, 98, 101, 114, 115]⟩ : Str), false, N) :: ((⟨#[37, 100]⟩ : Str), true, .dct l) :: Y
noncomputable abbrev opS : Kinds := N_Names_init.1.sc
noncomputable abbrev opB : List Stmt := N_Names_init.1.body
/-- the arguments of the call that a statement is -/
noncomputable def cE : Stmt → List Expr
  | .Expr (.Call _ es _ _) _ => es
  | _ => []
noncomputable def OpA (S its N : D) (k : Nat) (o : Option (Fl × Vars × Nat)) : Prop := ∃ v2 : Vars, o = some (Fl.nxt, v2, k) ∧ v2.lookup (⟨#[37, 100]⟩ : Str) = some (true, .dct (opnL0 S its N [((⟨#[99, 111, 117, 110, 116]⟩ : Str), .int 0)]))
theorem c_opener {done : List (List Str)} {S N : D} : clN p (n + 1) (⟨#[79, 112, 101, 110, 101, 114]⟩ : Str) [S, .none, .lst (done.map (itemOf R)), N] k = some (.obj p.CO (opnL S (.lst (done.map (itemOf R))) N), k) := by
  have hB : OpA S (.lst (done.map (itemOf R))) N k ((evSs (evM (tbX p) p.CO setO opS 20) (opB.drop 0) (opA S (.lst (done.map (itemOf R))) N [] []) k).run (clN p n)) := by
    rw [← runRet]
    refine sqT 5 (vs' := opA S (.lst (done.map (itemOf R))) N (opnL0 S (.lst (done.map (itemOf R))) N []) []) (k' := k) stR (sqX (i := 5) (B := evSs (evM (tbX p) p.CO setO opS 19) (fB (stAt opB 5))) (bind := bindT opS (fT (stAt opB 5))) (l := done.map (itemOf R)) (k' := k) (stE rfl) ?_)
    refine for_each (fun vs k' => k' = k ∧ ∃ Y, vs = opA S (.lst (done.map (itemOf R))) N (opnL0 S (.lst (done.map (itemOf R))) N []) Y ∧ (Y = [] ∨ ∃ d, Y = [((⟨#[105, 116, 101, 109]⟩ : Str), false, d)])) ⟨rfl, [], rfl, .inl rfl⟩ ?_ ?_
    · rintro d hd vs k' ⟨rfl, Y, rfl, hY⟩
      obtain ⟨lot, ho, rfl⟩ := List.mem_map.mp hd
      refine ⟨.nxt, opA S (.lst (done.map (itemOf R))) N (opnL0 S (.lst (done.map (itemOf R))) N []) [((⟨#[105, 116, 101, 109]⟩ : Str), false, itemOf R lot)], k', ?_, .inl rfl, rfl, _, rfl, .inr ⟨_, rfl⟩⟩
      rcases hY with rfl | ⟨d, rfl⟩ <;> exact stR
    · rintro vs k' ⟨rfl, Y, rfl, hY⟩
      exact ⟨opA S (.lst (done.map (itemOf R))) N (opnL0 S (.lst (done.map (itemOf R))) N [((⟨#[99, 111, 117, 110, 116]⟩ : Str), .int 0)]) Y, stR, by kernel_rfl⟩
  obtain ⟨v2, b1, b2⟩ := hB
  have key : (subInit (tbX p) p.CO setO N_Opener_init.1.sc opS N_Opener_init.1.params.tail N_Names_init.1.params.tail opB [S, .none, .lst (done.map (itemOf R)), N] k (viewU N_Opener_init.1.body)).run (clN p n) = some (opnL S (.lst (done.map (itemOf R))) N, k) :=
    stE (m' := subGo (tbX p) p.CO setO N_Opener_init.1.sc opS N_Opener_init.1.params.tail N_Names_init.1.params.tail opB [S, .none, .lst (done.map (itemOf R)), N] k (cE (stAt N_Opener_init.1.body 0)) (N_Opener_init.1.body.drop 1)) (subGo_run (ds := [S, .none, .lst (done.map (itemOf R)), N]) (k1 := k) (v3 := opA S (.lst (done.map (itemOf R))) N (opnL S (.lst (done.map (itemOf R))) N) []) stR (by kernel_rfl) b1 b2 stR (by kernel_rfl))
  have h1 : fnsX.lookup (⟨#[79, 112, 101, 110, 101, 114]⟩ : Str) = none := by kernel_rfl
  have h2 : (⟨#[79, 112, 101, 110, 101, 114]⟩ : Str) ≠ (⟨#[83, 105, 103, 110, 97, 116, 117, 114, 101, 115]⟩ : Str) := by decide +kernel
  rw [clN]
  simp only [h1, if_true, if_neg h2]
  rw [key]
  rfl
end
end Mine

-- C19
namespace Mine
noncomputable def names4 : List Str := [(⟨#[65]⟩ : Str), (⟨#[66]⟩ : Str), (⟨#[67]⟩ : Str), (⟨#[68]⟩ : Str)]
/-- a shape: who stands where -/
noncomputable def R0 (c d : Int) : Str → Row := rOf ⟨(⟨#[]⟩ : Str), [], false, (⟨#[]⟩ : Str)⟩ ⟨(⟨#[65]⟩ : Str), [], false, (⟨#[]⟩ : Str)⟩ ⟨cPar c, [], false, (⟨#[]⟩ : Str)⟩ ⟨dPar d, dParts d, false, (⟨#[]⟩ : Str)⟩
structure Like (R S : Str → Row) : Prop where
  par : ∀ nm, (R nm).par = (S nm).par
  parts : ∀ nm, (R nm).parts = (S nm).parts
variable {R S : Str → Row}
theorem Like.dir (h : Like R S) (nm : Str) : dirOf (R nm) = dirOf (S nm) := by unfold dirOf; rw [h.par, h.parts]
theorem Like.pf (h : Like R S) : pfStep R = pfStep S := by
  funext s; unfold pfStep; simp only [h.dir]
theorem Like.aa (h : Like R S) : aaStep R = aaStep S := by
  funext s; unfold aaStep; simp only [h.dir]
theorem Like.kids (h : Like R S) (st : List Str) (nm : Str) : kids R st nm = kids S st nm := by unfold Mine.kids; simp only [h.par]
noncomputable def okL (l : List Str) : Bool := l.all fun o => names4.contains o
noncomputable def shapeOk (R : Str → Row) (done : List (List Str)) : Bool :=
  names4.all (fun nm => okL (dirOf (R nm)) && ((R nm).par == (⟨#[]⟩ : Str) || (R (R nm).par).parts.isEmpty) && ((R nm).par == (⟨#[]⟩ : Str) || (R nm).parts.isEmpty) && decide ((R nm).parts.length ≤ 2) && decide ((dirOf (R nm)).length ≤ 2)
    && (match iter (aaStep R) 64 ([], dirOf (R nm)) with | some (f, _) => decide (f.length ≤ 50) | none => false)
    && decide ((kids R done.flatten nm).length ≤ 3) && decide ((nm :: (dirOf (R nm) ++ kids R done.flatten nm)).length ≤ 4) && decide (nm :: (dirOf (R nm) ++ kids R done.flatten nm)).Nodup)
  && okL done.flatten && decide (done.flatten.length ≤ 10) && decide (done.length ≤ 10) && decide done.flatten.Nodup
  && (match iter (pfStep R) 64 ([], done.flatten) with | some (f, _) => okL f && decide (f.length ≤ 20) | none => false)
noncomputable def lotsOk (ALL : List (List Str)) (done : List (List Str)) : Bool := (done.all fun lot => ALL.contains lot) && names4.all fun nm => done.flatten.contains nm
theorem shapes2 : ∀ d ∈ ([0, 1, 2, 3, 4, 5, 6] : List Int), ∀ q ∈ poss all2 3, (shapeOk (R0 0 d) q.2 && lotsOk all2 q.2) = true := by decide +kernel
theorem shapes1 : ∀ c ∈ ([0, 1] : List Int), ∀ d ∈ ([0, 1, 2, 3, 4, 5, 6] : List Int), ∀ q ∈ poss all1 4, (shapeOk (R0 c d) q.2 && lotsOk all1 q.2) = true := by decide +kernel
theorem lookup_app {α : Type} : ∀ (l r : List (Str × α)) (x : Str), (l ++ r).lookup x = (l.lookup x).or (r.lookup x)
  | [], r, x => rfl
  | (y, d) :: l, r, x => by
    rw [List.cons_append, List.lookup_cons, List.lookup_cons]
    cases x == y
    · exact lookup_app l r x
    · rfl
theorem ent_lk {R : Str → Row} : ∀ {done : List (List Str)} {nm : Str}, nm ∈ done.flatten → (∀ lot ∈ done, ∀ x ∈ lot, R (lot.headD (⟨#[]⟩ : Str)) = R x) → ∃ ns, (entAll R done).lookup nm = some (itD ns (R nm))
  | [], nm, h, _ => by simp at h
  | lot :: r, nm, h, H => by
    have e : entAll R (lot :: r) = entOf (itemOf R lot) lot ++ entAll R r := by unfold entAll; rw [List.flatMap_cons]
    rw [e, lookup_app]
    by_cases q : nm ∈ lot
    · have : (entOf (itemOf R lot) lot).lookup nm = some (itemOf R lot) := by
        have gen : ∀ (xs : List Str) (d : D), nm ∈ xs → (entOf d xs).lookup nm = some d := by
          intro xs d hx
          induction xs with
          | nil => simp at hx
          | cons x xs ih =>
            show List.lookup nm ((x, d) :: entOf d xs) = _
            rw [List.lookup_cons]
            by_cases e : nm = x
            · subst e; simp
            · rw [show (nm == x) = false by simpa using e]
              exact ih ((List.mem_cons.mp hx).resolve_left e)
        exact gen lot _ q
      refine ⟨lotD lot, ?_⟩
      rw [this]
      unfold itemOf
      rw [H lot (by simp) nm q]
      rfl
    · have : (entOf (itemOf R lot) lot).lookup nm = none := lk_none (by simpa [entOf, Function.comp_def] using q)
      rw [this]
      have h' : nm ∈ r.flatten := by simpa [q] using h
      exact ent_lk h' fun l hl => H l (by simp [hl])
theorem okL_mem {l : List Str} (h : okL l = true) : ∀ o ∈ l, o ∈ names4 := fun o ho => by
  have := List.all_eq_true.mp h o ho
  simpa using this
structure Fit (R : Str → Row) (done : List (List Str)) (f : List Str) : Prop where
  lots : Lots R done
  ent : EntOk names4 (entAll R done) R
  imp : ImpOk names4 done.flatten f R
  pf : ∃ w, iter (pfStep R) 64 ([], done.flatten) = some (f, w)
  one : ∀ nm ∈ names4, (R nm).par = (⟨#[]⟩ : Str) ∨ (R nm).parts = []
  dl : ∀ nm ∈ names4, (dirOf (R nm)).length ≤ 2
  sl : ∀ nm ∈ names4, (nm :: (dirOf (R nm) ++ kids R done.flatten nm)).length ≤ 4
  nd : ∀ nm ∈ names4, (nm :: (dirOf (R nm) ++ kids R done.flatten nm)).Nodup
theorem nl4 : ∀ nm ∈ names4, decide (((⟨#[115, 105, 103, 32]⟩ : Str)).length + nm.length ≤ lim) = true := by decide +kernel
theorem fit_of {S : Str → Row} {done : List (List Str)} {ALL : List (List Str)} (h : Like R S) (hc : (shapeOk S done && lotsOk ALL done) = true) (hw : ∀ nm, (R nm).parts ≠ [] → (R nm).whole = false) (hh : ∀ lot ∈ ALL, ∀ x ∈ lot, R (lot.headD (⟨#[]⟩ : Str)) = R x) (hA : ∀ lot ∈ ALL, lot.headD (⟨#[]⟩ : Str) ∈ names4) : ∃ f, Fit R done f := by
  unfold shapeOk lotsOk at hc
  simp only [Bool.and_eq_true, decide_eq_true_eq] at hc
  obtain ⟨⟨⟨⟨⟨⟨c1, c2⟩, c3⟩, c4⟩, c5⟩, c6⟩, c7, c8⟩ := hc
  cases hpf : iter (pfStep S) 64 ([], done.flatten) with
  | none => rw [hpf] at c6; cases c6
  | some fw =>
    obtain ⟨f, w⟩ := fw
    rw [hpf] at c6
    simp only [Bool.and_eq_true, decide_eq_true_eq] at c6
    have key : ∀ nm ∈ names4, _ := fun nm hn => List.all_eq_true.mp c1 nm hn
    have key2 : ∀ nm ∈ names4, (∀ o ∈ dirOf (R nm), o ∈ names4) ∧ ((R nm).par = (⟨#[]⟩ : Str) ∨ (R (R nm).par).parts = []) ∧ ((R nm).par = (⟨#[]⟩ : Str) ∨ (R nm).parts = []) ∧ (R nm).parts.length ≤ 2 ∧ (dirOf (R nm)).length ≤ 2 ∧ (∃ f w, iter (aaStep R) 64 ([], dirOf (R nm)) = some (f, w) ∧ f.length ≤ 50) ∧ (kids R done.flatten nm).length ≤ 3 ∧ (nm :: (dirOf (R nm) ++ kids R done.flatten nm)).length ≤ 4 ∧ (nm :: (dirOf (R nm) ++ kids R done.flatten nm)).Nodup := fun nm hn => by
      have := key nm hn
      simp only [Bool.and_eq_true, decide_eq_true_eq, Bool.or_eq_true, beq_iff_eq, List.isEmpty_iff] at this
      obtain ⟨⟨⟨⟨⟨⟨⟨⟨a1, a2⟩, a3⟩, a4⟩, a5⟩, a6⟩, a7⟩, a8⟩, a9⟩ := this
      rw [h.dir nm, h.kids, h.par nm, h.parts nm, h.parts, h.aa]
      refine ⟨okL_mem a1, a2, a3, a4, a5, ?_, a7, a8, a9⟩
      cases e : iter (aaStep S) 64 ([], dirOf (S nm)) with
      | none => rw [e] at a6; cases a6
      | some q => obtain ⟨f, w⟩ := q; rw [e] at a6; exact ⟨f, w, rfl, of_decide_eq_true a6⟩
    have hlots : ∀ lot ∈ done, lot ∈ ALL := fun lot hl => by simpa using List.all_eq_true.mp c7 lot hl
    refine ⟨f, ⟨c4, c3, fun lot hl => ⟨?_, hw _⟩, c5⟩, ⟨fun nm hn => ?_, fun nm hn => (key2 nm hn).1, fun nm hn q => ((key2 nm hn).2.1).resolve_left q⟩, ⟨okL_mem c2, by omega, okL_mem c6.1, c6.2, fun nm hn => (key2 nm hn).2.2.2.1, fun nm hn => (key2 nm hn).2.2.2.2.2.2.1, fun nm hn => (key2 nm hn).2.2.2.2.2.1, nl4⟩, ⟨w, by rw [h.pf]; exact hpf⟩, fun nm hn => (key2 nm hn).2.2.1, fun nm hn => (key2 nm hn).2.2.2.2.1, fun nm hn => (key2 nm hn).2.2.2.2.2.2.2.1, fun nm hn => (key2 nm hn).2.2.2.2.2.2.2.2⟩
    · have := (key2 _ (hA lot (hlots lot hl))).2.2.2.1
      omega
    · have hm : nm ∈ done.flatten := by simpa using List.all_eq_true.mp c8 nm hn
      obtain ⟨ns, e⟩ := ent_lk (R := R) hm fun lot hl => hh lot (hlots lot hl)
      have := (key2 nm hn).2.2.2.1
      exact ⟨ns, e, by omega⟩
theorem rOf_all {P : Row → Prop} {r1 r2 r3 r4 : Row} (h1 : P r1) (h2 : P r2) (h3 : P r3) (h4 : P r4) (x : Str) : P (rOf r1 r2 r3 r4 x) := by
  unfold rOf
  split
  · exact h1
  · split
    · exact h2
    · split
      · exact h3
      · exact h4
theorem like_of {a1 a2 a3 a4 b1 b2 b3 b4 : Row} (h1 : a1.par = b1.par ∧ a1.parts = b1.parts) (h2 : a2.par = b2.par ∧ a2.parts = b2.parts) (h3 : a3.par = b3.par ∧ a3.parts = b3.parts) (h4 : a4.par = b4.par ∧ a4.parts = b4.parts) : Like (rOf a1 a2 a3 a4) (rOf b1 b2 b3 b4) := by
  have : ∀ x, (rOf a1 a2 a3 a4 x).par = (rOf b1 b2 b3 b4 x).par ∧ (rOf a1 a2 a3 a4 x).parts = (rOf b1 b2 b3 b4 x).parts := by
    intro x
    unfold rOf
    split
    · exact h1
    · split
      · exact h2
      · split
        · exact h3
        · exact h4
  exact ⟨fun x => (this x).1, fun x => (this x).2⟩
end Mine

-- C20
namespace Mine
noncomputable def nu (x : Str) : Nat := if x = (⟨#[65]⟩ : Str) then 0 else if x = (⟨#[66]⟩ : Str) then 1 else if x = (⟨#[67]⟩ : Str) then 2 else 3
noncomputable def num (x : Str) : Int := (nu x : Int)
noncomputable def spotsL : List (Str × D) := [((⟨#[65]⟩ : Str), .int 0), ((⟨#[66]⟩ : Str), .int 1), ((⟨#[67]⟩ : Str), .int 2), ((⟨#[68]⟩ : Str), .int 3)]
theorem nu_lt : ∀ x, nu x < 4 := fun x => by unfold nu; split <;> (try split) <;> (try split) <;> omega
theorem nu_inj : ∀ a ∈ names4, ∀ b ∈ names4, nu a = nu b → a = b := by decide +kernel
theorem spots_num : NumOk names4 spotsL num := by
  unfold NumOk
  intro nm h
  simp only [names4, List.mem_cons, List.not_mem_nil, or_false] at h
  unfold spotsL num nu
  rcases h with rfl | rfl | rfl | rfl
  · rw [if_pos rfl]; exact lk_eq
  · rw [if_neg (by decide +kernel), if_pos rfl, lk_ne (by decide +kernel)]; exact lk_eq
  · rw [if_neg (by decide +kernel), if_neg (by decide +kernel), if_pos rfl, lk_ne (by decide +kernel), lk_ne (by decide +kernel)]; exact lk_eq
  · rw [if_neg (by decide +kernel), if_neg (by decide +kernel), if_neg (by decide +kernel), lk_ne (by decide +kernel), lk_ne (by decide +kernel), lk_ne (by decide +kernel)]; exact lk_eq
theorem num_b : ∀ o ∈ names4, 0 ≤ num o ∧ num o < 4 := fun o _ => by have := nu_lt o; unfold num; omega
-- the masks hold what was told
theorem masks_get {S : List Str} {T : List Int} (hS : ∀ o ∈ S, o ∈ names4) (hn : S.Nodup) : ∀ m, m ≤ S.length → ((List.range m).foldl (fun s i => s.set (num (S.getD i (⟨#[]⟩ : Str))).toNat (T.getD i 0)) [0, 0, 0, 0]).length = 4 ∧ ∀ i, i < m → ((List.range m).foldl (fun s i => s.set (num (S.getD i (⟨#[]⟩ : Str))).toNat (T.getD i 0)) [0, 0, 0, 0]).getD (nu (S.getD i (⟨#[]⟩ : Str))) 0 = T.getD i 0
  | 0, _ => ⟨rfl, fun i h => absurd h (Nat.not_lt_zero _)⟩
  | m + 1, hm => by
    obtain ⟨h1, h2⟩ := masks_get hS hn m (by omega)
    rw [List.range_succ, List.foldl_append]
    generalize (List.range m).foldl (fun s i => s.set (num (S.getD i (⟨#[]⟩ : Str))).toNat (T.getD i 0)) [0, 0, 0, 0] = F at h1 h2
    simp only [List.foldl_cons, List.foldl_nil]
    have ht : (num (S.getD m (⟨#[]⟩ : Str))).toNat = nu (S.getD m (⟨#[]⟩ : Str)) := by unfold num; omega
    rw [ht]
    refine ⟨by rw [List.length_set]; exact h1, fun i hi => ?_⟩
    rw [List.getD_eq_getElem?_getD, List.getElem?_set]
    by_cases e : nu (S.getD m (⟨#[]⟩ : Str)) = nu (S.getD i (⟨#[]⟩ : Str))
    · have hm' : m < S.length := by omega
      have hi' : i < S.length := by omega
      have e1 : S.getD m (⟨#[]⟩ : Str) = S[m] := by rw [List.getD_eq_getElem?_getD, List.getElem?_eq_getElem hm']; rfl
      have e2 : S.getD i (⟨#[]⟩ : Str) = S[i] := by rw [List.getD_eq_getElem?_getD, List.getElem?_eq_getElem hi']; rfl
      have := nu_inj _ (by rw [e1]; exact hS _ (List.getElem_mem hm')) _ (by rw [e2]; exact hS _ (List.getElem_mem hi')) e
      rw [e1, e2] at this
      have : m = i := by
        by_cases q : i < m
        · exact absurd this.symm (List.pairwise_iff_getElem.mp hn i m hi' hm' q)
        · omega
      subst this
      rw [if_pos rfl, if_pos (by rw [h1]; exact nu_lt _)]
      rfl
    · rw [if_neg e, ← List.getD_eq_getElem?_getD]
      have : i ≠ m := fun q => e (by rw [q])
      exact h2 i (by omega)
-- formulas
noncomputable def unE (nu : Str → Nat) : List Str → Ex
  | [] => .rel 0
  | e :: r => (r.map fun o => Ex.rel (nu o)).foldl .un (.rel (nu e))
theorem foldE (r : List Ex) (a : Ex) : (r.foldl Ex.un a).toD = (r.map Ex.toD).foldl unionD a.toD := by
  induction r generalizing a with
  | nil => rfl
  | cons e r ih => simp only [List.foldl_cons, List.map_cons]; rw [ih]; rfl
theorem unE_D {l : List Str} (h : l ≠ []) : (unE nu l).toD = unD num l := by
  cases l with
  | nil => exact absurd rfl h
  | cons e r =>
    unfold unE unD
    rw [foldE, List.map_map]
    rfl
noncomputable def unV : List Int → Int
  | [] => 0
  | e :: r => r.foldl Builtin.bitOr e
theorem foldV (ms : List Int) (r : List Ex) (a : Ex) : (r.foldl Ex.un a).val ms = (r.map (Ex.val ms)).foldl Builtin.bitOr (a.val ms) := by
  induction r generalizing a with
  | nil => rfl
  | cons e r ih => simp only [List.foldl_cons, List.map_cons]; rw [ih]; rfl
theorem unE_V {ms : List Int} {l : List Str} (h : l ≠ []) : (unE nu l).val ms = unV (l.map fun o => ms.getD (nu o) 0) := by
  cases l with
  | nil => exact absurd rfl h
  | cons e r =>
    unfold unE unV
    rw [foldV, List.map_map]
    rfl
theorem fold_wf {m : Nat} : ∀ (r : List Ex) (a : Ex), a.wf m → (∀ e ∈ r, e.wf m) → (r.foldl Ex.un a).wf m
  | [], a, h, _ => h
  | e :: r, a, h, H => fold_wf r (.un a e) ⟨h, H e (by simp)⟩ fun e he => H e (by simp [he])
theorem fold_depth : ∀ (r : List Str) (a : Ex), ((r.map fun o => Ex.rel (nu o)).foldl Ex.un a).depth ≤ max a.depth 1 + r.length
  | [], a => by simp; omega
  | e :: r, a => by
    have := fold_depth r (.un a (.rel (nu e)))
    simp only [List.map_cons, List.foldl_cons, List.length_cons]
    refine Nat.le_trans this ?_
    simp only [Ex.depth]
    omega
theorem unE_wf {l : List Str} (h : l.length ≤ 3) : (unE nu l).wf 4 ∧ (unE nu l).depth ≤ 4 := by
  cases l with
  | nil => exact ⟨by show (0 : Nat) < 4; decide, by decide⟩
  | cons e r =>
    unfold unE
    refine ⟨fold_wf _ _ (nu_lt e) fun x hx => ?_, ?_⟩
    · obtain ⟨o, _, rfl⟩ := List.mem_map.mp hx
      exact nu_lt o
    · have := fold_depth r (.rel (nu e))
      simp only [Ex.depth] at this
      simp only [List.length_cons] at h
      refine Nat.le_trans this ?_
      simp only [Nat.max_self]
      omega
noncomputable def noFm : List Ex → List Fm
  | [a, b] => [.so (⟨#[110, 111]⟩ : Str) (.me a b)]
  | [a, b, c] => [.so (⟨#[110, 111]⟩ : Str) (.me a b), .so (⟨#[110, 111]⟩ : Str) (.me a c), .so (⟨#[110, 111]⟩ : Str) (.me b c)]
  | _ => []
theorem noFm_D : ∀ (l : List Ex), (noFm l).map Fm.toD = noL (l.map Ex.toD)
  | [] => rfl
  | [_] => rfl
  | [_, _] => rfl
  | [_, _, _] => rfl
  | _ :: _ :: _ :: _ :: _ => rfl
noncomputable def fms (R : Str → Row) (st : List Str) (nm : Str) : List Fm :=
  ((if (R nm).par = (⟨#[]⟩ : Str) then [] else [.inn (.rel (nu nm)) (.rel (nu (R nm).par))]) ++
  (if (R nm).parts = [] then [] else [.inn (.rel (nu nm)) (unE nu (R nm).parts)]) ++
  (if marked (R nm).mark = true then [.so (R nm).mark (.rel (nu nm))] else [])) ++
  (noFm ((kids R st nm).map fun o => .rel (nu o)) ++ (if (R nm).whole = true ∧ kids R st nm ≠ [] then [.inn (.rel (nu nm)) (unE nu (kids R st nm))] else []))
variable {R : Str → Row}
theorem fms_D (st : List Str) (nm : Str) : (fms R st nm).map Fm.toD = forms R num st nm := by
  unfold fms forms placeL childL
  simp only [List.map_append, noFm_D, List.map_map]
  congr 1
  · congr 1
    · congr 1
      · split <;> rfl
      · split
        · rfl
        · rename_i h
          simp only [List.map_cons, List.map_nil, Fm.toD, unE_D h]
          rfl
    · split <;> rfl
  · congr 1
    split
    · rename_i h
      simp only [List.map_cons, List.map_nil, Fm.toD, unE_D h.2]
      rfl
    · rfl
theorem marked_no {m : Str} (h : marked m = true) : (m == (⟨#[97, 110, 100]⟩ : Str)) = false ∧ (m == (⟨#[105, 110]⟩ : Str)) = false := by
  unfold marked at h
  simp only [List.any_cons, List.any_nil, Bool.or_false, Bool.or_eq_true, beq_iff_eq] at h
  rcases h with rfl | rfl | rfl <;> exact ⟨by decide +kernel, by decide +kernel⟩
theorem noFm_wf : ∀ (l : List Str), ∀ f ∈ noFm (l.map fun o => Ex.rel (nu o)), f.wf 4
  | [], f, h => by simp [noFm] at h
  | [_], f, h => by simp [noFm] at h
  | [a, b], f, h => by
    simp only [List.map_cons, List.map_nil, noFm, List.mem_cons, List.not_mem_nil, or_false] at h
    subst h
    exact ⟨⟨nu_lt _, nu_lt _⟩, by simp [Ex.depth], by decide +kernel, by decide +kernel⟩
  | [a, b, c], f, h => by
    simp only [List.map_cons, List.map_nil, noFm, List.mem_cons, List.not_mem_nil, or_false] at h
    rcases h with rfl | rfl | rfl <;> exact ⟨⟨nu_lt _, nu_lt _⟩, by simp [Ex.depth], by decide +kernel, by decide +kernel⟩
  | _ :: _ :: _ :: _ :: _, f, h => by simp [noFm] at h
theorem fms_wf {st : List Str} {nm : Str} (hp : (R nm).parts.length ≤ 2) (hk : (kids R st nm).length ≤ 3) : ∀ f ∈ fms R st nm, f.wf 4 := by
  intro f hf
  unfold fms at hf
  simp only [List.mem_append] at hf
  rcases hf with ((hf | hf) | hf) | hf | hf
  · split at hf
    · simp at hf
    · simp only [List.mem_cons, List.not_mem_nil, or_false] at hf
      subst hf
      exact ⟨nu_lt _, nu_lt _, by simp [Ex.depth], by simp [Ex.depth]⟩
  · split at hf
    · simp at hf
    · simp only [List.mem_cons, List.not_mem_nil, or_false] at hf
      subst hf
      have := unE_wf (l := (R nm).parts) (by omega)
      exact ⟨nu_lt _, this.1, by simp [Ex.depth], this.2⟩
  · split at hf
    · rename_i hm
      simp only [List.mem_cons, List.not_mem_nil, or_false] at hf
      subst hf
      exact ⟨nu_lt _, by simp [Ex.depth], (marked_no hm).1, (marked_no hm).2⟩
    · simp at hf
  · exact noFm_wf _ f hf
  · split at hf
    · simp only [List.mem_cons, List.not_mem_nil, or_false] at hf
      subst hf
      have := unE_wf (l := kids R st nm) hk
      exact ⟨nu_lt _, this.1, by simp [Ex.depth], this.2⟩
    · simp at hf
end Mine

-- C21
namespace Mine
variable {R : Str → Row} {p : Par} {n k : Nat}
noncomputable def pairsV : List Int → Bool
  | [a, b] => isSoB (⟨#[110, 111]⟩ : Str) (Builtin.bitAnd a b)
  | [a, b, c] => isSoB (⟨#[110, 111]⟩ : Str) (Builtin.bitAnd a b) && (isSoB (⟨#[110, 111]⟩ : Str) (Builtin.bitAnd a c) && isSoB (⟨#[110, 111]⟩ : Str) (Builtin.bitAnd b c))
  | _ => true
noncomputable def xV (own : Int) (us ls : List Int) (w : Bool) : Bool := (us.isEmpty || Builtin.bitAnd own (unV us) == own) && (pairsV ls && (!(w && !ls.isEmpty) || Builtin.bitAnd own (unV ls) == own))
noncomputable def yV (own : Int) (us ls : List Int) (w : Bool) : Bool := !outB own us && match foldR wholeSt ls 0 with
  | .inl _ => false
  | .inr z => !w || (ls.isEmpty || Builtin.bitAnd own (Builtin.bitNot z) == 0)
noncomputable def chkT (m u : Nat) : Bool := (List.range (codes m)).all fun c => [true, false].all fun w => xV ((toldOf m c).getD 0 0) (((toldOf m c).drop 1).take u) ((toldOf m c).drop (1 + u)) w == yV ((toldOf m c).getD 0 0) (((toldOf m c).drop 1).take u) ((toldOf m c).drop (1 + u)) w
theorem chk1 : chkT 1 0 = true := by decide +kernel
theorem chk2 : (chkT 2 0 && chkT 2 1) = true := by decide +kernel
theorem chk3 : (chkT 3 0 && chkT 3 1 && chkT 3 2) = true := by decide +kernel
theorem chk4a : chkT 4 0 = true := by decide +kernel
theorem chk4b : chkT 4 1 = true := by decide +kernel
theorem chk4c : chkT 4 2 = true := by decide +kernel
theorem chk_all {m u : Nat} (hm : m ≤ 4) (hu : u ≤ 2) (h : u + 1 ≤ m) : chkT m u = true := by
  have h2 := chk2
  have h3 := chk3
  simp only [Bool.and_eq_true] at h2 h3
  match m, u, hm, hu, h with
  | 1, 0, _, _, _ => exact chk1
  | 2, 0, _, _, _ => exact h2.1
  | 2, 1, _, _, _ => exact h2.2
  | 3, 0, _, _, _ => exact h3.1.1
  | 3, 1, _, _, _ => exact h3.1.2
  | 3, 2, _, _, _ => exact h3.2
  | 4, 0, _, _, _ => exact chk4a
  | 4, 1, _, _, _ => exact chk4b
  | 4, 2, _, _, _ => exact chk4c
  | 0, _, _, _, h => omega
  | 1, u + 1, _, _, h => omega
  | 2, u + 2, _, _, h => omega
  | _, u + 3, _, h, _ => omega
  | m + 5, _, h, _, _ => omega
theorem soEmpty {own : Int} : isSoB (⟨#[]⟩ : Str) own = true := by
  unfold isSoB
  rw [if_neg (by decide +kernel)]
  simp
theorem isDueB_eq {r : Row} {own : Int} {us ls : List Int} : isDueB r own us ls = (isSoB r.mark own && yV own us ls r.whole) := by
  unfold isDueB yV
  cases outB own us <;> cases isSoB r.mark own <;> simp <;> (cases foldR wholeSt ls 0 <;> rfl)
theorem noFm_all {ms : List Int} : ∀ (l : List Str), (noFm (l.map fun o => Ex.rel (nu o))).all (Fm.holds ms) = pairsV (l.map fun o => ms.getD (nu o) 0)
  | [] => rfl
  | [_] => rfl
  | [_, _] => by simp [noFm, pairsV, Fm.holds, Ex.val]
  | [_, _, _] => by simp [noFm, pairsV, Fm.holds, Ex.val]
  | _ :: _ :: _ :: _ :: _ => rfl
theorem fms_all {ms : List Int} {st : List Str} {nm : Str} (one : (R nm).par = (⟨#[]⟩ : Str) ∨ (R nm).parts = []) (mk : (R nm).mark = (⟨#[]⟩ : Str) ∨ marked (R nm).mark = true) :
    (fms R st nm).all (Fm.holds ms) = (isSoB (R nm).mark (ms.getD (nu nm) 0) && xV (ms.getD (nu nm) 0) ((dirOf (R nm)).map fun o => ms.getD (nu o) 0) ((kids R st nm).map fun o => ms.getD (nu o) 0) (R nm).whole) := by
  unfold fms xV
  simp only [List.all_append, noFm_all]
  have hm : (if marked (R nm).mark = true then [Fm.so (R nm).mark (.rel (nu nm))] else []).all (Fm.holds ms) = isSoB (R nm).mark (ms.getD (nu nm) 0) := by
    rcases mk with h | h
    · rw [h, soEmpty]
      have : marked (⟨#[]⟩ : Str) = false := by decide +kernel
      rw [this]; rfl
    · rw [if_pos h]
      simp [Fm.holds, Ex.val]
  have hu : ((if (R nm).par = (⟨#[]⟩ : Str) then [] else [Fm.inn (.rel (nu nm)) (.rel (nu (R nm).par))]).all (Fm.holds ms) && (if (R nm).parts = [] then [] else [Fm.inn (.rel (nu nm)) (unE nu (R nm).parts)]).all (Fm.holds ms)) = (((dirOf (R nm)).map fun o => ms.getD (nu o) 0).isEmpty || Builtin.bitAnd (ms.getD (nu nm) 0) (unV ((dirOf (R nm)).map fun o => ms.getD (nu o) 0)) == ms.getD (nu nm) 0) := by
    unfold dirOf
    by_cases q : (R nm).par = (⟨#[]⟩ : Str)
    · rw [if_pos q, if_pos q]
      by_cases q2 : (R nm).parts = []
      · rw [if_pos q2, q2]; rfl
      · rw [if_neg q2]
        simp only [List.all_cons, List.all_nil, Fm.holds, unE_V q2, Ex.val, List.nil_append, Bool.and_true, Bool.true_and, List.isEmpty_map]
        have : (R nm).parts.isEmpty = false := by simpa using q2
        rw [this]; rfl
    · have q2 := one.resolve_left q
      rw [if_neg q, if_neg q, q2]
      simp [Fm.holds, Ex.val, unV]
  have hk : (if (R nm).whole = true ∧ kids R st nm ≠ [] then [Fm.inn (.rel (nu nm)) (unE nu (kids R st nm))] else []).all (Fm.holds ms) = (!((R nm).whole && !((kids R st nm).map fun o => ms.getD (nu o) 0).isEmpty) || Builtin.bitAnd (ms.getD (nu nm) 0) (unV ((kids R st nm).map fun o => ms.getD (nu o) 0)) == ms.getD (nu nm) 0) := by
    by_cases q : (R nm).whole = true ∧ kids R st nm ≠ []
    · rw [if_pos q]
      have : (kids R st nm).isEmpty = false := by simpa using q.2
      simp [Fm.holds, Ex.val, unE_V q.2, q.1, this]
    · rw [if_neg q]
      simp only [List.isEmpty_map]
      cases h : (R nm).whole
      · rfl
      · have : kids R st nm = [] := by
          by_cases e : kids R st nm = []
          · exact e
          · exact absurd ⟨h, e⟩ q
        rw [this]; rfl
  rw [hm, hu, hk]
  cases isSoB (R nm).mark (ms.getD (nu nm) 0) <;> simp
theorem told_len {m c : Nat} : (toldOf m c).length = m := by unfold toldOf; simp
theorem right_of {done : List (List Str)} {f : List Str} (F : Fit R done f) (mk : ∀ nm, (R nm).mark = (⟨#[]⟩ : Str) ∨ marked (R nm).mark = true) {nm : Str} (h : nm ∈ names4) :
    ∀ c, c < codes (nm :: (dirOf (R nm) ++ kids R done.flatten nm)).length → let T := toldOf (nm :: (dirOf (R nm) ++ kids R done.flatten nm)).length c
      T.getD 0 0 ≠ 2 → (fms R done.flatten nm).all (Fm.holds (masksOf num (nm :: (dirOf (R nm) ++ kids R done.flatten nm)) T)) = isDueB (R nm) (T.getD 0 0) ((T.drop 1).take (dirOf (R nm)).length) (T.drop (1 + (dirOf (R nm)).length)) := by
  intro c hc
  dsimp only
  intro _
  have hsl := F.sl nm h
  have hdl := F.dl nm h
  have hnd := F.nd nm h
  have hin : ∀ o ∈ nm :: (dirOf (R nm) ++ kids R done.flatten nm), o ∈ names4 := by
    intro o ho
    rcases List.mem_cons.mp ho with rfl | ho
    · exact h
    · rcases List.mem_append.mp ho with ho | ho
      · exact F.ent.cl nm h o ho
      · exact F.imp.sti o (List.mem_filter.mp ho).1
  have hlen : (nm :: (dirOf (R nm) ++ kids R done.flatten nm)).length = 1 + (dirOf (R nm)).length + (kids R done.flatten nm).length := by simp; omega
  have hchk := chk_all hsl hdl (by omega)
  rw [fms_all (F.one nm h) (mk nm), isDueB_eq]
  obtain ⟨m1, m2⟩ := masks_get (T := toldOf (nm :: (dirOf (R nm) ++ kids R done.flatten nm)).length c) hin hnd _ (Nat.le_refl _)
  have hx := List.all_eq_true.mp hchk c (List.mem_range.mpr hc)
  have hT := told_len (m := (nm :: (dirOf (R nm) ++ kids R done.flatten nm)).length) (c := c)
  generalize toldOf (nm :: (dirOf (R nm) ++ kids R done.flatten nm)).length c = T at *
  have hMe : masksOf num (nm :: (dirOf (R nm) ++ kids R done.flatten nm)) T = (List.range (nm :: (dirOf (R nm) ++ kids R done.flatten nm)).length).foldl (fun s i => s.set (num ((nm :: (dirOf (R nm) ++ kids R done.flatten nm)).getD i (⟨#[]⟩ : Str))).toNat (T.getD i 0)) [0, 0, 0, 0] := rfl
  rw [hMe]
  generalize (List.range (nm :: (dirOf (R nm) ++ kids R done.flatten nm)).length).foldl (fun s i => s.set (num ((nm :: (dirOf (R nm) ++ kids R done.flatten nm)).getD i (⟨#[]⟩ : Str))).toNat (T.getD i 0)) [0, 0, 0, 0] = ms at *
  have hTe : T = (nm :: (dirOf (R nm) ++ kids R done.flatten nm)).map fun o => ms.getD (nu o) 0 := by
    refine List.ext_getElem (by rw [List.length_map]; exact hT) fun i h1 h2 => ?_
    have hi : i < (nm :: (dirOf (R nm) ++ kids R done.flatten nm)).length := by rw [← hT]; exact h1
    have := m2 i hi
    rw [List.getElem_map]
    have e1 : (nm :: (dirOf (R nm) ++ kids R done.flatten nm)).getD i (⟨#[]⟩ : Str) = (nm :: (dirOf (R nm) ++ kids R done.flatten nm))[i] := by rw [List.getD_eq_getElem?_getD, List.getElem?_eq_getElem hi]; rfl
    have e2 : T.getD i 0 = T[i] := by rw [List.getD_eq_getElem?_getD, List.getElem?_eq_getElem h1]; rfl
    rw [e1, e2] at this
    exact this.symm
  have hw : ∀ w, xV (T.getD 0 0) ((T.drop 1).take (dirOf (R nm)).length) (T.drop (1 + (dirOf (R nm)).length)) w = yV (T.getD 0 0) ((T.drop 1).take (dirOf (R nm)).length) (T.drop (1 + (dirOf (R nm)).length)) w := by
    intro w
    have := List.all_eq_true.mp hx w (by cases w <;> simp)
    exact eq_of_beq this
  rw [← hw]
  have e0 : T.getD 0 0 = ms.getD (nu nm) 0 := by rw [hTe]; rfl
  have e1 : (T.drop 1).take (dirOf (R nm)).length = (dirOf (R nm)).map fun o => ms.getD (nu o) 0 := by
    rw [hTe]
    simp only [List.map_cons, List.map_append, List.drop_succ_cons, List.drop_zero]
    exact List.take_left' (by simp)
  have e2 : T.drop (1 + (dirOf (R nm)).length) = (kids R done.flatten nm).map fun o => ms.getD (nu o) 0 := by
    rw [hTe, Nat.add_comm]
    simp only [List.map_cons, List.map_append, List.drop_succ_cons]
    exact List.drop_left' (by simp)
  rw [e0, e1, e2]
end Mine

-- C22
namespace Mine
variable {R : Str → Row} {p : Par} {n k : Nat}
theorem mk_ok (d : Int) : mkOf d = (⟨#[]⟩ : Str) ∨ marked (mkOf d) = true := by
  unfold mkOf
  split
  · exact .inl rfl
  · split
    · exact .inr (by decide +kernel)
    · split
      · exact .inr (by decide +kernel)
      · exact .inr (by decide +kernel)
theorem planOk_of {r1 r2 r3 r4 : Row} {done : List (List Str)} {f : List Str} (F : Fit (rOf r1 r2 r3 r4) done f) : PlanOk names4 (planP r1 r2 r3 r4) (rOf r1 r2 r3 r4) := by
  refine ⟨fun nm h => ⟨?_, by have := F.imp.parts nm h; omega⟩, F.ent.cl, F.one⟩
  have : [nm] ∈ all1 := by
    simp only [names4, List.mem_cons, List.not_mem_nil, or_false] at h
    rcases h with rfl | rfl | rfl | rfl <;> simp [all1]
  obtain ⟨x, xs, e, _, h2⟩ := plan_lk (r1 := r1) (r2 := r2) (r3 := r3) (r4 := r4) (.inl rfl) this
  cases e
  exact h2
theorem heads1 : ∀ lot ∈ all1, lot.headD (⟨#[]⟩ : Str) ∈ names4 := by decide +kernel
theorem heads2 : ∀ lot ∈ all2, lot.headD (⟨#[]⟩ : Str) ∈ names4 := by decide +kernel
noncomputable def InC (p : Par) (n : Nat) (R : Str → Row) (P : List (Str × D)) (done : List (List Str)) (f : List Str) (k' : Nat) : Prop :=
  clN p (n + 2) (⟨#[95, 108, 97, 119, 95, 112, 108, 97, 110]⟩ : Str) [.feed] 0 = some (.tup [.dct P, .lst (done.map (itemOf R)), .lst (done.flatten.map .str)], k') ∧ Fit R done f ∧ PlanOk names4 P R ∧ ∀ nm, (R nm).mark = (⟨#[]⟩ : Str) ∨ marked (R nm).mark = true
theorem plan_fit (hc : p.cells.length ≤ 100) : ∃ R P done f k', InC p n R P done f k' := by
  have hd := drw_pos (p := p) (k := 1) (w := 7) (by decide)
  have hcc := drw_pos (p := p) (k := 0) (w := 2) (by decide)
  have hdm : drw p 1 7 ∈ ([0, 1, 2, 3, 4, 5, 6] : List Int) := by
    simp only [List.mem_cons, List.not_mem_nil, or_false]; omega
  have hcm : drw p 0 2 ∈ ([0, 1] : List Int) := by
    simp only [List.mem_cons, List.not_mem_nil, or_false]; omega
  have wD : (rD' p).parts ≠ [] → (rD' p).whole = false := by
    intro h
    have : (dParts (drw p 1 7)).isEmpty = false := by simpa [rD'] using h
    show (drw p 8 2 == 1 && (dParts (drw p 1 7)).isEmpty) = false
    rw [this]; simp
  rcases c_plan (n := n) hc with ⟨hq, done, k', e, hp⟩ | ⟨done, k', e, hp⟩
  · have hL : Like (rOf (rA p) (rB p) (rB p) (rD' p)) (R0 0 (drw p 1 7)) := like_of ⟨rfl, rfl⟩ ⟨rfl, rfl⟩ ⟨by show (⟨#[65]⟩ : Str) = cPar 0; unfold cPar; rw [if_pos rfl], rfl⟩ ⟨rfl, rfl⟩
    obtain ⟨f, F⟩ := fit_of hL (shapes2 _ hdm _ hp) (rOf_all (P := fun r => r.parts ≠ [] → r.whole = false) (fun h => absurd rfl h) (fun h => absurd rfl h) (fun h => absurd rfl h) wD) (by
      intro lot hl x hx
      simp only [all2, List.mem_cons, List.not_mem_nil, or_false] at hl
      rcases hl with rfl | rfl | rfl
      · simp only [List.mem_cons, List.not_mem_nil, or_false] at hx; subst hx; rfl
      · simp only [List.mem_cons, List.not_mem_nil, or_false] at hx
        rcases hx with rfl | rfl
        · rfl
        · show rOf _ _ _ _ (⟨#[66]⟩ : Str) = _
          unfold rOf
          rw [if_neg (by decide +kernel), if_pos rfl, if_neg (by decide +kernel), if_neg (by decide +kernel), if_pos rfl]
      · simp only [List.mem_cons, List.not_mem_nil, or_false] at hx; subst hx; rfl) heads2
    exact ⟨_, _, done, f, k', e, F, planOk_of F, rOf_all (P := fun r => r.mark = (⟨#[]⟩ : Str) ∨ marked r.mark = true) (mk_ok _) (mk_ok _) (mk_ok _) (mk_ok _)⟩
  · have hL : Like (rOf (rA p) (rB p) (rC p) (rD' p)) (R0 (drw p 0 2) (drw p 1 7)) := like_of ⟨rfl, rfl⟩ ⟨rfl, rfl⟩ ⟨rfl, rfl⟩ ⟨rfl, rfl⟩
    obtain ⟨f, F⟩ := fit_of hL (shapes1 _ hcm _ hdm _ hp) (rOf_all (P := fun r => r.parts ≠ [] → r.whole = false) (fun h => absurd rfl h) (fun h => absurd rfl h) (fun h => absurd rfl h) wD) (by
      intro lot hl x hx
      simp only [all1, List.mem_cons, List.not_mem_nil, or_false] at hl
      rcases hl with rfl | rfl | rfl | rfl <;> (simp only [List.mem_cons, List.not_mem_nil, or_false] at hx; subst hx; rfl)) heads1
    exact ⟨_, _, done, f, k', e, F, planOk_of F, rOf_all (P := fun r => r.mark = (⟨#[]⟩ : Str) ∨ marked r.mark = true) (mk_ok _) (mk_ok _) (mk_ok _) (mk_ok _)⟩
noncomputable def limW (w : Bool) : Int := if w = true then 0 else 1
noncomputable def dueB (R : Str → Row) (st : List Str) (nm : Str) : Bool := !(dirOf (R nm)).isEmpty || (!((R nm).mark == (⟨#[]⟩ : Str)) || decide (limW (R nm).whole < ((kids R st nm).length : Int)))
theorem noL_nil : ∀ (l : List D), l.length ≤ 3 → (noL l = [] ↔ l.length ≤ 1)
  | [], _ => by simp [noL]
  | [_], _ => by simp [noL]
  | [_, _], _ => by simp [noL]
  | [_, _, _], _ => by simp [noL]
  | _ :: _ :: _ :: _ :: _, h => by simp at h
theorem forms_nil {done : List (List Str)} {f : List Str} (F : Fit R done f) (mk : ∀ nm, (R nm).mark = (⟨#[]⟩ : Str) ∨ marked (R nm).mark = true) {nm : Str} (h : nm ∈ names4) : (forms R num done.flatten nm = []) = (dueB R done.flatten nm = false) := by
  have hk := F.imp.kidl nm h
  have hone := F.one nm h
  have hmk := mk nm
  unfold forms placeL childL dueB dirOf
  have h0 : marked (⟨#[]⟩ : Str) = false := by decide +kernel
  apply propext
  simp only [List.append_eq_nil_iff]
  have hn := noL_nil ((kids R done.flatten nm).map fun o => relD (num o)) (by rw [List.length_map]; exact hk)
  rw [List.length_map] at hn
  rw [hn]
  clear hn hk
  generalize kids R done.flatten nm = ks
  unfold limW
  rcases hmk with hm | hm
  · rcases ks with _ | ⟨a, _ | ⟨b, r⟩⟩
    · by_cases q1 : (R nm).par = (⟨#[]⟩ : Str) <;> by_cases q2 : (R nm).parts = [] <;> cases hw : (R nm).whole <;> simp [q1, q2, hm, h0]
    · by_cases q1 : (R nm).par = (⟨#[]⟩ : Str) <;> by_cases q2 : (R nm).parts = [] <;> cases hw : (R nm).whole <;> simp [q1, q2, hm, h0]
    · have z0 : (0 : Int) < ((r.length + 1 + 1 : Nat) : Int) := by omega
      have z1 : (1 : Int) < ((r.length + 1 + 1 : Nat) : Int) := by omega
      have z2 : ¬ (r.length + 1 + 1 ≤ 1) := by omega
      cases hw : (R nm).whole <;> simp only [List.length_cons, z0, z1, z2, decide_true, if_true, if_false, Bool.false_eq_true, Bool.or_true, false_and, and_false, reduceCtorEq, iff_self]
  · have hm' : (R nm).mark ≠ (⟨#[]⟩ : Str) := fun e => by rw [e, h0] at hm; cases hm
    simp [hm, hm']
theorem imp_map {done : List (List Str)} {f : List Str} (F : Fit R done f) (mk : ∀ nm, (R nm).mark = (⟨#[]⟩ : Str) ∨ marked (R nm).mark = true) : ∀ (l : List Str), (∀ o ∈ l, o ∈ names4) → l.flatMap (impD R num done.flatten) = (l.filter (dueB R done.flatten)).map fun nm => .tup [.str ((⟨#[115, 105, 103, 32]⟩ : Str) ++ nm), joinedD (forms R num done.flatten nm)]
  | [], _ => rfl
  | nm :: r, h => by
    rw [List.flatMap_cons, imp_map F mk r fun o ho => h o (by simp [ho])]
    have := forms_nil F mk (h nm (by simp))
    unfold impD
    by_cases q : forms R num done.flatten nm = []
    · rw [if_pos q]
      rw [q] at this
      have e : dueB R done.flatten nm = false := by rw [← this]
      rw [List.filter_cons, if_neg (by rw [e]; simp)]
      rfl
    · rw [if_neg q]
      have e : dueB R done.flatten nm = true := by
        cases e : dueB R done.flatten nm with
        | true => rfl
        | false => rw [e] at this; exact absurd (this ▸ rfl) q
      rw [List.filter_cons, if_pos e]
      rfl
theorem zip_map2 (g : Str → D) (h : Str → D) : ∀ (l : List Str), ((l.map g).zip (l.map h)).map (fun p => D.tup [p.1, p.2]) = l.map fun x => .tup [g x, h x]
  | [] => rfl
  | a :: r => by simp [zip_map2 g h r]
end Mine

-- C23
namespace Mine
variable {R : Str → Row} {p : Par} {n k : Nat}
noncomputable def lawTail : List Stmt := N_law.1.body.drop 2
noncomputable def LawOk (o : Option (Fl × Vars × Nat)) : Prop := ∃ (vs : Vars) (k' : Nat), o = some (.ret (.bool true), vs, k')
theorem neTup (xs : List Str) : (cmpD .NotEq (.tup (xs.map .str)) (.tup [])).map D.bool = some (.bool (!xs.isEmpty)) := by cases xs <;> rfl
theorem neSelf (xs : List Str) : (cmpD .NotEq (.lst (xs.map .str)) (.lst (xs.map .str))).map D.bool = some (.bool false) := by
  show ((eqSeq (xs.map .str) (xs.map .str)).map (!·)).map D.bool = _
  unfold eqSeq eqStrs
  rw [if_pos rfl, asMap]
  show some (D.bool (!(decide (xs = xs)))) = _
  rw [decide_eq_true rfl]
  rfl
noncomputable def ltV (P : List (Str × D)) (its st S F : D) (due : Bool × D) (X : Vars) : Vars := ((⟨#[102, 101, 101, 100]⟩ : Str), false, .feed) :: ((⟨#[112, 108, 97, 110]⟩ : Str), false, .dct P) :: ((⟨#[105, 116, 101, 109, 115]⟩ : Str), false, its) :: ((⟨#[115, 116, 97, 110, 100, 115]⟩ : Str), false, st) :: ((⟨#[115, 105, 103, 110, 97, 116, 117, 114, 101, 115]⟩ : Str), false, S) :: ((⟨#[115, 112, 111, 116, 115]⟩ : Str), false, .dct spotsL) :: ((⟨#[102, 111, 117, 110, 100]⟩ : Str), false, F) :: ((⟨#[100, 117, 101]⟩ : Str), due) :: X
noncomputable abbrev ltB : List Stmt := N_law.1.body
noncomputable abbrev ltS : Kinds := N_law.1.sc
theorem due_run {P : List (Str × D)} {its st S F : D} {acc ds : List Str} {nm : Str} {r : Row} {ks : Nat} {cl : Cl} (hP : subF (tbX p) k (.dct P) (.str nm) = some (rowD r)) (e7 : cl (⟨#[95, 108, 97, 119, 95, 97, 98, 111, 118, 101]⟩ : Str) [.dct P, .str nm] k = some (.tup (ds.map .str), k)) (za : decide ((acc.map D.str).length ≤ lim) = true) :
    ((evSs (evS (tbX p) ltS 19) ((fB (stAt ltB 5)).drop 1) (ltV P its st S F (true, .lst (acc.map .str)) [((⟨#[108, 97, 98, 101, 108]⟩ : Str), false, .str nm), ((⟨#[109, 97, 110, 121]⟩ : Str), false, .int (ks : Int))]) k).bind M.ret).run cl = some (.nxt, ltV P its st S F (true, .lst (acc.map .str ++ if (!ds.isEmpty || (!(r.mark == (⟨#[]⟩ : Str)) || decide (limW r.whole < (ks : Int)))) = true then [.str nm] else [])) [((⟨#[108, 97, 98, 101, 108]⟩ : Str), false, .str nm), ((⟨#[109, 97, 110, 121]⟩ : Str), false, .int (ks : Int))], k) := by
  cases z1 : !ds.isEmpty with
  | true => exact stC e7 (stO (neTup ds) (stB z1 (stA za stR)))
  | false =>
  cases z2 : !(r.mark == (⟨#[]⟩ : Str)) with
  | true => exact stC e7 (stO (neTup ds) (stB z1 (stL hP (stB z2 (stA za stR)))))
  | false =>
  unfold rowD at hP
  cases z3 : decide (limW r.whole < (ks : Int)) with
  | true =>
    revert z3 hP
    cases r.whole
    · exact fun hP z3 => stC e7 (stO (neTup ds) (stB z1 (stL hP (stB z2 (stL hP (stBn z3 1 (stA za stR)))))))
    · exact fun hP z3 => stC e7 (stO (neTup ds) (stB z1 (stL hP (stB z2 (stL hP (stBn z3 1 (stA za stR)))))))
  | false =>
    rw [if_neg (by decide), List.append_nil]
    revert z3 hP
    cases r.whole
    · exact fun hP z3 => stC e7 (stO (neTup ds) (stB z1 (stL hP (stB z2 (stL hP (stBn z3 1 stR))))))
    · exact fun hP z3 => stC e7 (stO (neTup ds) (stB z1 (stL hP (stB z2 (stL hP (stBn z3 1 stR))))))
theorem law_tail (hc : p.cells.length ≤ 100) : LawOk ((evSs (evS (tbX p) ltS 20) lawTail [((⟨#[102, 101, 101, 100]⟩ : Str), false, .feed)] 0).run (clN p (n + 7))) := by
  obtain ⟨R, P, done, f, kp, e1, F, HP, mk⟩ := plan_fit (p := p) (n := n + 5) hc
  have e1 : clN p (n + 7) (⟨#[95, 108, 97, 119, 95, 112, 108, 97, 110]⟩ : Str) [.feed] 0 = some (.tup [.dct P, .lst (done.map (itemOf R)), .lst (done.flatten.map .str)], kp) := e1
  obtain ⟨w, hpf⟩ := F.pf
  obtain ⟨l, e2, S1, S2, S3, S4⟩ := c_signatures (p := p) (n := n + 3) (k := kp) F.lots F.ent F.imp.sti hpf F.imp.ori F.imp.orl
  have e2 : clN p (n + 7) (⟨#[83, 105, 103, 110, 97, 116, 117, 114, 101, 115]⟩ : Str) [.lst (done.map (itemOf R))] kp = some (.obj p.CS l, kp) := e2
  have e3 : clN p (n + 7) (⟨#[79, 112, 101, 110, 101, 114]⟩ : Str) [.obj p.CS l, .none, .lst (done.map (itemOf R)), .dct spotsL] kp = some (.obj p.CO (opnL (.obj p.CS l) (.lst (done.map (itemOf R))) (.dct spotsL)), kp) := c_opener
  have O : OpOk (opnL (.obj p.CS l) (.lst (done.map (itemOf R))) (.dct spotsL)) l spotsL p := ⟨by kernel_rfl, by kernel_rfl, by kernel_rfl⟩
  have e4 : clN p (n + 7) (⟨#[105, 109, 112, 108, 105, 101, 100]⟩ : Str) [.obj p.CS l, .obj p.CO (opnL (.obj p.CS l) (.lst (done.map (itemOf R))) (.dct spotsL))] kp = some (.lst (f.flatMap (impD R num done.flatten)), kp) := c_implied (n := n + 1) S1 O F.ent spots_num F.imp S2 S3 S4
  rw [imp_map F mk f F.imp.ori] at e4
  have hst := F.imp.stl
  have e5 : clN p (n + 7) (⟨#[95, 108, 97, 119, 95, 115, 111, 114, 116, 101, 100]⟩ : Str) [.dct P, .lst (done.flatten.map .str)] kp = some (.lst (f.map .str), kp) := c_sorted HP F.imp.sti hst (Nat.le_refl _) hpf
  have e6 : ∀ nm k, clN p (n + 7) (⟨#[95, 108, 97, 119, 95, 98, 101, 108, 111, 119]⟩ : Str) [.dct P, .lst (done.flatten.map .str), .str nm] k = some (.lst ((kids R done.flatten nm).map .str), k) := fun nm k => c_below HP F.imp.sti hst
  have e7 : ∀ nm ∈ names4, ∀ k, clN p (n + 7) (⟨#[95, 108, 97, 119, 95, 97, 98, 111, 118, 101]⟩ : Str) [.dct P, .str nm] k = some (.tup ((dirOf (R nm)).map .str), k) := fun nm h k => c_above HP h
  have e8 : ∀ nm ∈ names4, ∀ k, clN p (n + 7) (⟨#[95, 108, 97, 119, 95, 105, 115, 95, 108, 97, 98, 101, 108, 95, 114, 105, 103, 104, 116]⟩ : Str) [.dct P, .lst (done.flatten.map .str), .str nm, joinedD (forms R num done.flatten nm), .dct spotsL] k = some (.bool true, k) := fun nm h k => by
    rw [← fms_D]
    refine c_label_right HP spots_num F.imp.sti hst h (F.sl nm h) (F.dl nm h) num_b ?_ (fms_wf (F.imp.parts nm h) (F.imp.kidl nm h)) (right_of F mk h)
    have := congrArg List.length (fms_D (R := R) done.flatten nm)
    rw [List.length_map] at this
    rw [this]
    exact Nat.le_trans forms_len (Nat.le_of_ble_eq_true rfl)
  have hfl := F.imp.orl
  have hor := F.imp.ori
  generalize hFD : (f.filter (dueB R done.flatten)).map (fun nm => D.tup [.str ((⟨#[115, 105, 103, 32]⟩ : Str) ++ nm), joinedD (forms R num done.flatten nm)]) = FD at e4
  unfold lawTail
  rw [← runRet]
  refine sqP (i := 2) (vs' := [((⟨#[102, 101, 101, 100]⟩ : Str), false, .feed), ((⟨#[112, 108, 97, 110]⟩ : Str), false, .dct P), ((⟨#[105, 116, 101, 109, 115]⟩ : Str), false, .lst (done.map (itemOf R))), ((⟨#[115, 116, 97, 110, 100, 115]⟩ : Str), false, .lst (done.flatten.map .str))]) (k' := kp) (stC e1 stR)
    (sqP (vs' := [((⟨#[102, 101, 101, 100]⟩ : Str), false, .feed), ((⟨#[112, 108, 97, 110]⟩ : Str), false, .dct P), ((⟨#[105, 116, 101, 109, 115]⟩ : Str), false, .lst (done.map (itemOf R))), ((⟨#[115, 116, 97, 110, 100, 115]⟩ : Str), false, .lst (done.flatten.map .str)), ((⟨#[115, 105, 103, 110, 97, 116, 117, 114, 101, 115]⟩ : Str), false, .obj p.CS l), ((⟨#[115, 112, 111, 116, 115]⟩ : Str), false, .dct spotsL)]) (k' := kp) (stC e2 stR)
    (sqP (vs' := ltV P (.lst (done.map (itemOf R))) (.lst (done.flatten.map .str)) (.obj p.CS l) (.lst FD) (true, .lst []) []) (k' := kp) (stC e3 (stC e4 stR)) (sqFP (k' := kp) (l := f.map .str) (stC e5 stR) (limS hfl) ?_)))
  clear e1 e2 e3 e4 e5
  refine for_then (fun rem vs k' => k' = kp ∧ ∃ (os acc : List Str) (X : Vars), vs = ltV P (.lst (done.map (itemOf R))) (.lst (done.flatten.map .str)) (.obj p.CS l) (.lst FD) (true, .lst (acc.map .str)) X ∧ (X = [] ∨ ∃ a b, X = [((⟨#[108, 97, 98, 101, 108]⟩ : Str), false, a), ((⟨#[109, 97, 110, 121]⟩ : Str), false, b)]) ∧ rem = os.map .str ∧ (∀ o ∈ os, o ∈ names4) ∧ acc ++ os.filter (dueB R done.flatten) = f.filter (dueB R done.flatten) ∧ acc.length + os.length ≤ f.length) (P := LawOk) ?_ ?_ ⟨rfl, f, [], [], rfl, .inl rfl, rfl, hor, rfl, by rw [List.length_nil, Nat.zero_add]; exact Nat.le_refl _⟩
  · rintro d rem vs k' ⟨rfl, os, acc, X, rfl, hX, q1, q2, q3, q4⟩
    cases os with
    | nil => cases q1
    | cons nm os =>
      cases q1
      have hnm := q2 nm List.mem_cons_self
      rw [List.length_cons, Nat.add_comm os.length 1, ← Nat.add_assoc] at q4
      have hkl : decide (((kids R done.flatten nm).map D.str).length ≤ lim) = true := limD (m := 3) (by rw [List.length_map]; exact F.imp.kidl nm hnm) rfl
      have za : decide ((acc.map D.str).length ≤ lim) = true := limD (m := 20) (by rw [List.length_map]; exact Nat.le_trans (Nat.le_trans (Nat.le_trans (Nat.le_succ _) (Nat.le_add_right _ _)) q4) hfl) rfl
      have hd0 : dueB R done.flatten nm = (!(dirOf (R nm)).isEmpty || (!((R nm).mark == (⟨#[]⟩ : Str)) || decide (limW (R nm).whole < (((kids R done.flatten nm).map D.str).length : Int)))) := by rw [List.length_map]; rfl
      have run := due_run (p := p) (P := P) (its := .lst (done.map (itemOf R))) (st := .lst (done.flatten.map .str)) (S := .obj p.CS l) (F := .lst FD) (ks := ((kids R done.flatten nm).map D.str).length) (HP.e nm hnm).1 (e7 nm hnm k') za
      rw [← hd0] at run
      have fin : OkP (fun vs k'' => k'' = k' ∧ ∃ (os' acc : List Str) (X : Vars), vs = ltV P (.lst (done.map (itemOf R))) (.lst (done.flatten.map .str)) (.obj p.CS l) (.lst FD) (true, .lst (acc.map .str)) X ∧ (X = [] ∨ ∃ a b, X = [((⟨#[108, 97, 98, 101, 108]⟩ : Str), false, a), ((⟨#[109, 97, 110, 121]⟩ : Str), false, b)]) ∧ os.map .str = os'.map D.str ∧ (∀ o ∈ os', o ∈ names4) ∧ acc ++ os'.filter (dueB R done.flatten) = f.filter (dueB R done.flatten) ∧ acc.length + os'.length ≤ f.length) (((evSs (evS (tbX p) ltS 19) ((fB (stAt ltB 5)).drop 1) (ltV P (.lst (done.map (itemOf R))) (.lst (done.flatten.map .str)) (.obj p.CS l) (.lst FD) (true, .lst (acc.map .str)) [((⟨#[108, 97, 98, 101, 108]⟩ : Str), false, .str nm), ((⟨#[109, 97, 110, 121]⟩ : Str), false, .int (((kids R done.flatten nm).map D.str).length : Int))]) k').bind M.ret).run (clN p (n + 7))) := by
        rw [run]
        rw [List.filter_cons] at q3
        cases h : dueB R done.flatten nm with
        | true =>
          rw [h, if_pos rfl] at q3
          exact ⟨_, _, _, rfl, .inl rfl, rfl, os, acc ++ [nm], _, by rw [List.map_append]; rfl, .inr ⟨_, _, rfl⟩, rfl, fun o h => q2 o (List.mem_cons_of_mem _ h), by rw [List.append_assoc]; exact q3, by rw [List.length_append]; exact q4⟩
        | false =>
          rw [h, if_neg (by decide)] at q3
          exact ⟨_, _, _, rfl, .inl rfl, rfl, os, acc, _, by rw [if_neg (by decide), List.append_nil], .inr ⟨_, _, rfl⟩, rfl, fun o h => q2 o (List.mem_cons_of_mem _ h), q3, Nat.le_trans (Nat.add_le_add_right (Nat.le_succ _) _) q4⟩
      rcases hX with rfl | ⟨a, b, rfl⟩
      · exact turnB (ltV P (.lst (done.map (itemOf R))) (.lst (done.flatten.map .str)) (.obj p.CS l) (.lst FD) (true, .lst (acc.map .str)) [((⟨#[108, 97, 98, 101, 108]⟩ : Str), false, .str nm)]) (sqP (vs' := ltV P (.lst (done.map (itemOf R))) (.lst (done.flatten.map .str)) (.obj p.CS l) (.lst FD) (true, .lst (acc.map .str)) [((⟨#[108, 97, 98, 101, 108]⟩ : Str), false, .str nm), ((⟨#[109, 97, 110, 121]⟩ : Str), false, .int (((kids R done.flatten nm).map D.str).length : Int))]) (k' := k') (stC (e6 nm k') (stA hkl stR)) fin)
      · exact turnB (ltV P (.lst (done.map (itemOf R))) (.lst (done.flatten.map .str)) (.obj p.CS l) (.lst FD) (true, .lst (acc.map .str)) [((⟨#[108, 97, 98, 101, 108]⟩ : Str), false, .str nm), ((⟨#[109, 97, 110, 121]⟩ : Str), false, b)]) (sqP (vs' := ltV P (.lst (done.map (itemOf R))) (.lst (done.flatten.map .str)) (.obj p.CS l) (.lst FD) (true, .lst (acc.map .str)) [((⟨#[108, 97, 98, 101, 108]⟩ : Str), false, .str nm), ((⟨#[109, 97, 110, 121]⟩ : Str), false, .int (((kids R done.flatten nm).map D.str).length : Int))]) (k' := k') (stC (e6 nm k') (stA hkl stR)) fin)
  · rintro vs k' ⟨rfl, os, acc, X, rfl, hX, q1, q2, q3, q4⟩
    cases os with
    | cons a b => cases q1
    | nil =>
      have q3 : acc ++ [] = f.filter (dueB R done.flatten) := q3
      rw [List.append_nil] at q3
      rw [← q3] at hFD
      have hDU : ∀ o ∈ acc, o ∈ names4 := fun o h => hor o (List.mem_filter.mp (q3 ▸ h)).1
      have hDl : acc.length ≤ 20 := q3 ▸ Nat.le_trans (List.length_filter_le _ _) hfl
      have c1 : ∀ X, (compOf (tbX p) 38 ltS (ltV P (.lst (done.map (itemOf R))) (.lst (done.flatten.map .str)) (.obj p.CS l) (.lst FD) (true, .lst (acc.map .str)) X) k' (lE (rE (stAt ltB 6))) FD).run (clN p (n + 7)) = some ((acc.map fun nm => (⟨#[115, 105, 103, 32]⟩ : Str) ++ nm).map .str, k') := fun X => by
        have := cmpO (cl := clN p (n + 7)) (k := k') (tb := tbX p) (n := 38) (sc := ltS) (vs := ltV P (.lst (done.map (itemOf R))) (.lst (done.flatten.map .str)) (.obj p.CS l) (.lst FD) (true, .lst (acc.map .str)) X) (e := lE (rE (stAt ltB 6))) (fun nm : Str => D.tup [.str ((⟨#[115, 105, 103, 32]⟩ : Str) ++ nm), joinedD (forms R num done.flatten nm)]) (fun _ => true) (fun nm => .str ((⟨#[115, 105, 103, 32]⟩ : Str) ++ nm)) (xs := acc) fun nm hnm => ⟨stR, fun _ => ⟨false, stR⟩⟩
        rw [List.filter_eq_self.mpr fun _ _ => rfl, hFD] at this
        rw [List.map_map]
        exact this
      have c2 : ∀ X, (compOf (tbX p) 38 ltS (ltV P (.lst (done.map (itemOf R))) (.lst (done.flatten.map .str)) (.obj p.CS l) (.lst FD) (true, .lst (acc.map .str)) X) k' (aE (rE (stAt ltB 6))) (acc.map .str)).run (clN p (n + 7)) = some ((acc.map fun nm => (⟨#[115, 105, 103, 32]⟩ : Str) ++ nm).map .str, k') := fun X => by
        have := cmpO (cl := clN p (n + 7)) (k := k') (tb := tbX p) (n := 38) (sc := ltS) (vs := ltV P (.lst (done.map (itemOf R))) (.lst (done.flatten.map .str)) (.obj p.CS l) (.lst FD) (true, .lst (acc.map .str)) X) (e := aE (rE (stAt ltB 6))) D.str (fun _ => true) (fun nm => .str ((⟨#[115, 105, 103, 32]⟩ : Str) ++ nm)) (xs := acc) fun nm hnm => ⟨stR, fun _ => ⟨false, stA (nl4 nm (hDU nm hnm)) stR⟩⟩
        rw [List.filter_eq_self.mpr fun _ _ => rfl] at this
        rw [List.map_map]
        exact this
      have l1 : decide (FD.length ≤ lim) = true := limD (m := 20) (by rw [← hFD, List.length_map]; exact hDl) rfl
      have l2 : decide ((acc.map D.str).length ≤ lim) = true := limS hDl
      have z : ((acc.map D.str).zip FD).map (fun q => D.tup [q.1, q.2]) = acc.map fun x => .tup [.str x, .tup [.str ((⟨#[115, 105, 103, 32]⟩ : Str) ++ x), joinedD (forms R num done.flatten x)]] := by rw [← hFD, zip_map2]
      rcases hX with rfl | ⟨a, b, rfl⟩
      · refine sqP (vs' := ltV P (.lst (done.map (itemOf R))) (.lst (done.flatten.map .str)) (.obj p.CS l) (.lst FD) (true, .lst (acc.map .str)) []) (k' := k') (stA l1 (stS (c1 []) (stA l2 (stS (c2 []) (stO (neSelf (acc.map fun nm => (⟨#[115, 105, 103, 32]⟩ : Str) ++ nm)) stR))))) (sqY (i := 7) (B := evSs (evS (tbX p) ltS 19) (fB (stAt ltB 7))) (bind := bindP ltS (⟨#[108, 97, 98, 101, 108]⟩ : Str) (⟨#[114, 111, 119]⟩ : Str)) (l := ((acc.map D.str).zip FD).map fun q => .tup [q.1, q.2]) (vs₁ := ltV P (.lst (done.map (itemOf R))) (.lst (done.flatten.map .str)) (.obj p.CS l) (.lst FD) (false, .lst (acc.map .str)) []) (k' := k') (stA l2 (stA l1 (stE rfl))) ?_)
        rw [z]
        refine for_each (fun vs k'' => k'' = k' ∧ ∃ Y, vs = ltV P (.lst (done.map (itemOf R))) (.lst (done.flatten.map .str)) (.obj p.CS l) (.lst FD) (false, .lst (acc.map .str)) Y ∧ (Y = [] ∨ ∃ d e, Y = [((⟨#[108, 97, 98, 101, 108]⟩ : Str), false, d), ((⟨#[114, 111, 119]⟩ : Str), false, e)])) ⟨rfl, _, rfl, .inl rfl⟩ ?_ ?_
        · rintro d hd vs k'' ⟨rfl, Y, rfl, hY⟩
          obtain ⟨nm, hnm, rfl⟩ := List.mem_map.mp hd
          have e8' := e8 nm (hDU nm hnm) k''
          refine ⟨.nxt, ltV P (.lst (done.map (itemOf R))) (.lst (done.flatten.map .str)) (.obj p.CS l) (.lst FD) (false, .lst (acc.map .str)) [((⟨#[108, 97, 98, 101, 108]⟩ : Str), false, .str nm), ((⟨#[114, 111, 119]⟩ : Str), false, (.tup [.str ((⟨#[115, 105, 103, 32]⟩ : Str) ++ nm), joinedD (forms R num done.flatten nm)]))], k'', ?_, .inl rfl, rfl, _, rfl, .inr ⟨_, _, rfl⟩⟩
          rcases hY with rfl | ⟨d, e, rfl⟩ <;> exact stC e8' stR
        · rintro vs k'' ⟨rfl, Y, rfl, hY⟩
          rcases hY with rfl | ⟨d, e, rfl⟩
          · exact ⟨freezeAll (ltV P (.lst (done.map (itemOf R))) (.lst (done.flatten.map .str)) (.obj p.CS l) (.lst FD) (false, .lst (acc.map .str)) []), k'', stR⟩
          · exact ⟨freezeAll (ltV P (.lst (done.map (itemOf R))) (.lst (done.flatten.map .str)) (.obj p.CS l) (.lst FD) (false, .lst (acc.map .str)) [((⟨#[108, 97, 98, 101, 108]⟩ : Str), false, d), ((⟨#[114, 111, 119]⟩ : Str), false, e)]), k'', stR⟩
      · refine sqP (vs' := ltV P (.lst (done.map (itemOf R))) (.lst (done.flatten.map .str)) (.obj p.CS l) (.lst FD) (true, .lst (acc.map .str)) [((⟨#[108, 97, 98, 101, 108]⟩ : Str), false, a), ((⟨#[109, 97, 110, 121]⟩ : Str), false, b)]) (k' := k') (stA l1 (stS (c1 [((⟨#[108, 97, 98, 101, 108]⟩ : Str), false, a), ((⟨#[109, 97, 110, 121]⟩ : Str), false, b)]) (stA l2 (stS (c2 [((⟨#[108, 97, 98, 101, 108]⟩ : Str), false, a), ((⟨#[109, 97, 110, 121]⟩ : Str), false, b)]) (stO (neSelf (acc.map fun nm => (⟨#[115, 105, 103, 32]⟩ : Str) ++ nm)) stR))))) (sqY (i := 7) (B := evSs (evS (tbX p) ltS 19) (fB (stAt ltB 7))) (bind := bindP ltS (⟨#[108, 97, 98, 101, 108]⟩ : Str) (⟨#[114, 111, 119]⟩ : Str)) (l := ((acc.map D.str).zip FD).map fun q => .tup [q.1, q.2]) (vs₁ := ltV P (.lst (done.map (itemOf R))) (.lst (done.flatten.map .str)) (.obj p.CS l) (.lst FD) (false, .lst (acc.map .str)) [((⟨#[108, 97, 98, 101, 108]⟩ : Str), false, a), ((⟨#[109, 97, 110, 121]⟩ : Str), false, b)]) (k' := k') (stA l2 (stA l1 (stE rfl))) ?_)
        rw [z]
        refine for_each (fun vs k'' => k'' = k' ∧ ∃ Y, vs = ltV P (.lst (done.map (itemOf R))) (.lst (done.flatten.map .str)) (.obj p.CS l) (.lst FD) (false, .lst (acc.map .str)) Y ∧ (Y = [((⟨#[108, 97, 98, 101, 108]⟩ : Str), false, a), ((⟨#[109, 97, 110, 121]⟩ : Str), false, b)] ∨ ∃ d e, Y = [((⟨#[108, 97, 98, 101, 108]⟩ : Str), false, d), ((⟨#[109, 97, 110, 121]⟩ : Str), false, b), ((⟨#[114, 111, 119]⟩ : Str), false, e)])) ⟨rfl, _, rfl, .inl rfl⟩ ?_ ?_
        · rintro d hd vs k'' ⟨rfl, Y, rfl, hY⟩
          obtain ⟨nm, hnm, rfl⟩ := List.mem_map.mp hd
          have e8' := e8 nm (hDU nm hnm) k''
          refine ⟨.nxt, ltV P (.lst (done.map (itemOf R))) (.lst (done.flatten.map .str)) (.obj p.CS l) (.lst FD) (false, .lst (acc.map .str)) [((⟨#[108, 97, 98, 101, 108]⟩ : Str), false, .str nm), ((⟨#[109, 97, 110, 121]⟩ : Str), false, b), ((⟨#[114, 111, 119]⟩ : Str), false, (.tup [.str ((⟨#[115, 105, 103, 32]⟩ : Str) ++ nm), joinedD (forms R num done.flatten nm)]))], k'', ?_, .inl rfl, rfl, _, rfl, .inr ⟨_, _, rfl⟩⟩
          rcases hY with rfl | ⟨d, e, rfl⟩ <;> exact stC e8' stR
        · rintro vs k'' ⟨rfl, Y, rfl, hY⟩
          rcases hY with rfl | ⟨d, e, rfl⟩
          · exact ⟨freezeAll (ltV P (.lst (done.map (itemOf R))) (.lst (done.flatten.map .str)) (.obj p.CS l) (.lst FD) (false, .lst (acc.map .str)) [((⟨#[108, 97, 98, 101, 108]⟩ : Str), false, a), ((⟨#[109, 97, 110, 121]⟩ : Str), false, b)]), k'', stR⟩
          · exact ⟨freezeAll (ltV P (.lst (done.map (itemOf R))) (.lst (done.flatten.map .str)) (.obj p.CS l) (.lst FD) (false, .lst (acc.map .str)) [((⟨#[108, 97, 98, 101, 108]⟩ : Str), false, d), ((⟨#[109, 97, 110, 121]⟩ : Str), false, b), ((⟨#[114, 111, 119]⟩ : Str), false, e)]), k'', stR⟩
end Mine

-- G1
namespace Mine
/-- of what a computation yields -/
noncomputable def Yl {α : Type} (cl : Cl) (m : M α) (P : α → Prop) : Prop := ∀ r, m.run cl = some r → P r
section
variable {α β : Type} {cl : Cl} {P : α → Prop} {Q : β → Prop}
theorem Yl.fail : Yl cl (.fail : M α) P := fun _ e => nopO <| e
theorem Yl.ret {a : α} (h : P a) : Yl cl (.ret a) P := fun _ e => by cases e; exact h
theorem Yl.mono {P' : α → Prop} {m : M α} (h : Yl cl m P) (g : ∀ a, P a → P' a) : Yl cl m P' := fun r e => g r (h r e)
theorem Yl.ask {b : Bool} {m : M α} (h : b = true → Yl cl m P) : Yl cl (.ask b m) P := by
  cases b
  · exact fun _ e => nopO <| e
  · exact h rfl
theorem Yl.gd {b : Bool} {m : M α} (h : b = true → Yl cl m P) : Yl cl (.gd b m) P := by
  cases b
  · exact fun _ e => nopO <| e
  · exact h rfl
theorem Yl.cond {b : Bool} {m n : M α} (h : b = true → Yl cl m P) (h' : b = false → Yl cl n P) : Yl cl (cond b m n) P := by
  cases b
  · exact h' rfl
  · exact h rfl
theorem Yl.test {b : Bool} {m n : M α} (h : b = true → Yl cl m P) (h' : b = false → Yl cl n P) : Yl cl (.test b m n) P := by
  cases b
  · exact h' rfl
  · exact h rfl
theorem Yl.ob {γ : Type} {o : Option γ} {f : γ → Option α} (h : ∀ r, o = some r → ∀ a, f r = some a → P a) : ∀ a, o.bind f = some a → P a := by
  cases o
  · exact fun _ e => nopO <| e
  · exact h _ rfl
theorem Yl.opt {o : Option D} {m : D → M α} (h : ∀ r, o = some r → Yl cl (m r) P) : Yl cl (.opt o m) P := Yl.ob h
theorem Yl.part {o : Option D} {m : D → M α} (h : ∀ r, o = some r → Yl cl (m r) P) : Yl cl (.part o m) P := Yl.ob h
theorem Yl.call {key : Str} {ds : List D} {k : Nat} {m : D × Nat → M α} (h : ∀ r, cl key ds k = some r → Yl cl (m r) P) : Yl cl (.call key ds k m) P := Yl.ob h
theorem Yl.sub {o : Cl → Option (List D × Nat)} {m : List D × Nat → M α} (h : ∀ r, o cl = some r → Yl cl (m r) P) : Yl cl (.sub o m) P := Yl.ob h
theorem Yl.lift {o : Option α} (h : ∀ r, o = some r → P r) : Yl cl (M.lift o) P := by
  cases o
  · exact .fail
  · exact .ret (h _ rfl)
theorem Yl.bind {f : α → M β} : ∀ {m : M α}, Yl cl m P → (∀ a, P a → Yl cl (f a) Q) → Yl cl (m.bind f) Q
  | .ret a, h, g => g a (h a rfl)
  | .fail, _, _ => .fail
  | .ask b c, h, g => by
    cases b
    · exact fun _ e => nopO <| e
    · exact Yl.bind (m := c) h g
  | .test b c d, h, g => by
    cases b
    · exact Yl.bind (m := d) h g
    · exact Yl.bind (m := c) h g
  | .part o c, h, g => .part fun r e => Yl.bind (m := c r) (fun a q => h a (by subst e; exact q)) g
  | .opt o c, h, g => .opt fun r e => Yl.bind (m := c r) (fun a q => h a (by subst e; exact q)) g
  | .call key ds k c, h, g => .call fun r e => Yl.bind (m := c r) (fun a q => h a (by show (cl key ds k).bind _ = _; rw [e]; exact q)) g
  | .sub o c, h, g => .sub fun r e => Yl.bind (m := c r) (fun a q => h a (by show (o cl).bind _ = _; rw [e]; exact q)) g
/-- what was yielded -/
theorem Yl.run {m : M α} : Yl cl m fun a => m.run cl = some a := fun _ e => e
theorem Yl.asI {d : D} : Yl cl (asI d) fun i => d = .int i := by cases d <;> first | exact .fail | exact .ret rfl
theorem Yl.asB {d : D} : Yl cl (asB d) fun i => d = .bool i := by cases d <;> first | exact .fail | exact .ret rfl
theorem Yl.asS {d : D} : Yl cl (asS d) fun i => d = .str i := by cases d <;> first | exact .fail | exact .ret rfl
theorem Yl.asL {d : D} : Yl cl (asL d) fun l => d = .lst l ∨ d = .tup l := by cases d <;> first | exact .fail | exact .ret (.inl rfl) | exact .ret (.inr rfl)
theorem Yl.asLst {d : D} : Yl cl (asLst d) fun i => d = .lst i := by cases d <;> first | exact .fail | exact .ret rfl
theorem Yl.asTup {d : D} : Yl cl (asTup d) fun i => d = .tup i := by cases d <;> first | exact .fail | exact .ret rfl
theorem Yl.asObj {d : D} : Yl cl (asObj d) fun q => d = .obj q.1 q.2 := by cases d <;> first | exact .fail | exact .ret rfl
end

structure Cx where
  prog : Program
  w : World
  fa : Addr
  K : Frag
  mg : Str → Option Value
  mb : Str → Option Value
  ca : Addr
  cells : List Value
  mix : Int
  tb : Tb
  at_ : Str → Addr

noncomputable def Sub (G h : Heap) : Prop := ∀ a o, G.get? a = some o → h.get? a = some o
theorem Sub.rfl' {G : Heap} : Sub G G := fun _ _ e => e
theorem Sub.trans {G h k : Heap} (x : Sub G h) (y : Sub h k) : Sub G k := fun a o e => y a o (x a o e)

noncomputable abbrev lstO (vs : List Value) (n : Nat) : Obj := { cls := .type "list", data := .seq vs.toArray n }
noncomputable abbrev tupO (vs : List Value) (n : Nat) : Obj := { cls := .type "tuple", data := .seq vs.toArray n }

/-- the value v bears the tree d in the part G of the heap that no longer turns -/
inductive Is (c : Cx) (G : Heap) : Value → D → Prop
  | none : Is c G .none .none
  | bool (b : Bool) : Is c G (.bool b) (.bool b)
  | int (i : Int) (t : Tok) : Is c G (.int i t) (.int i)
  | str (x : Str) (t : Tok) : Is c G (.str x t) (.str x)
  | feed : Is c G (.ref c.fa) .feed
  | tup {a : Addr} {vs : List Value} {n : Nat} {ds : List D} : G.get? a = some (tupO vs n) → vs.length = ds.length →
      (∀ (i : Nat) v d, vs[i]? = some v → ds[i]? = some d → Is c G v d) → Is c G (.ref a) (.tup ds)
  | lst {a : Addr} {vs : List Value} {n : Nat} {ds : List D} : G.get? a = some (lstO vs n) → vs.length = ds.length →
      (∀ (i : Nat) v d, vs[i]? = some v → ds[i]? = some d → Is c G v d) → Is c G (.ref a) (.lst ds)
  | dct {a : Addr} {kvs : List (Str × Value)} {l : List (Str × D)} : (a == sysModules) = false → G.DictOf (PySem.strKind c.prog c.w) a kvs → kvs.map (·.1) = l.map (·.1) →
      (∀ (i : Nat) v d, (kvs.map (·.2))[i]? = some v → (l.map (·.2))[i]? = some d → Is c G v d) → Is c G (.ref a) (.dct l)
  | obj {x dx C : Addr} {es : List DictEntry} {n : Nat} {l : List (Str × D)} : G.get? x = some (instObj C dx) → G.get? dx = some (dictOf es n) → es.length = l.length →
      (∀ (i : Nat) e q, es[i]? = some e → l[i]? = some q → e.key.isStr q.1 = true) →
      (∀ (i : Nat) v d, (es.map (·.val))[i]? = some v → (l.map (·.2))[i]? = some d → Is c G v d) → Is c G (.ref x) (.obj C l)

noncomputable def IsL (c : Cx) (G : Heap) (vs : List Value) (ds : List D) : Prop := vs.length = ds.length ∧ ∀ (i : Nat) v d, vs[i]? = some v → ds[i]? = some d → Is c G v d
noncomputable def IsKV (c : Cx) (G : Heap) (kvs : List (Str × Value)) (l : List (Str × D)) : Prop :=
  kvs.map (·.1) = l.map (·.1) ∧ ∀ (i : Nat) v d, (kvs.map (·.2))[i]? = some v → (l.map (·.2))[i]? = some d → Is c G v d

theorem Is.mono {c : Cx} {G G' : Heap} {v : Value} {d : D} (h : Is c G v d) (s : Sub G G') : Is c G' v d := by
  induction h with
  | none => exact .none
  | bool b => exact .bool b
  | int i t => exact .int i t
  | str x t => exact .str x t
  | feed => exact .feed
  | tup h1 h2 _ ih => exact .tup (s _ _ h1) h2 ih
  | lst h1 h2 _ ih => exact .lst (s _ _ h1) h2 ih
  | dct h0 h1 h2 _ ih => exact .dct h0 (h1.keep s) h2 ih
  | obj h1 h2 h3 h4 _ ih => exact .obj (s _ _ h1) (s _ _ h2) h3 h4 ih

section
variable {c : Cx} {G G' : Heap}
theorem IsL.mono {vs : List Value} {ds : List D} (h : IsL c G vs ds) (s : Sub G G') : IsL c G' vs ds := ⟨h.1, fun i v d a b => (h.2 i v d a b).mono s⟩
theorem IsKV.mono {vs : List (Str × Value)} {ds : List (Str × D)} (h : IsKV c G vs ds) (s : Sub G G') : IsKV c G' vs ds := ⟨h.1, fun i v d a b => (h.2 i v d a b).mono s⟩
theorem IsL.nil : IsL c G [] [] := ⟨rfl, fun _ _ _ h => by simp at h⟩
theorem IsL.cons {v : Value} {d : D} {vs : List Value} {ds : List D} (h : Is c G v d) (r : IsL c G vs ds) : IsL c G (v :: vs) (d :: ds) := by
  refine ⟨by simp [r.1], fun i x y a b => ?_⟩
  cases i with
  | zero => simp at a b; subst a b; exact h
  | succ i => simp at a b; exact r.2 i x y a b
theorem IsL.head {v : Value} {d : D} {vs : List Value} {ds : List D} (h : IsL c G (v :: vs) (d :: ds)) : Is c G v d := h.2 0 v d rfl rfl
theorem IsL.tail {v : Value} {d : D} {vs : List Value} {ds : List D} (h : IsL c G (v :: vs) (d :: ds)) : IsL c G vs ds :=
  ⟨by simpa using h.1, fun i x y a b => h.2 (i + 1) x y (by simpa using a) (by simpa using b)⟩
theorem IsL.nil_inv {vs : List Value} (h : IsL c G vs []) : vs = [] := List.length_eq_zero_iff.mp h.1
theorem IsL.cons_inv {vs : List Value} {d : D} {ds : List D} (h : IsL c G vs (d :: ds)) : ∃ v r, vs = v :: r ∧ Is c G v d ∧ IsL c G r ds := by
  cases vs with
  | nil => have := h.1; simp at this
  | cons v r => exact ⟨v, r, rfl, h.head, h.tail⟩
theorem IsL.append {vs ws : List Value} {ds es : List D} (h : IsL c G vs ds) (k : IsL c G ws es) : IsL c G (vs ++ ws) (ds ++ es) := by
  induction ds generalizing vs with
  | nil => rw [h.nil_inv]; exact k
  | cons d r ih =>
    obtain ⟨v, vs', rfl, h1, h2⟩ := h.cons_inv
    exact .cons h1 (ih h2)
theorem IsL.get {vs : List Value} {ds : List D} (h : IsL c G vs ds) {i : Nat} {d : D} (e : ds[i]? = some d) : ∃ v, vs[i]? = some v ∧ Is c G v d := by
  obtain ⟨hl, rfl⟩ := List.getElem?_eq_some_iff.mp e
  have : i < vs.length := h.1 ▸ hl
  exact ⟨vs[i], List.getElem?_eq_getElem this, h.2 i _ _ (List.getElem?_eq_getElem this) e⟩
theorem IsL.take {vs : List Value} {ds : List D} (h : IsL c G vs ds) (n : Nat) : IsL c G (vs.take n) (ds.take n) := by
  induction ds generalizing vs n with
  | nil => rw [h.nil_inv]; simp; exact .nil
  | cons d r ih =>
    obtain ⟨v, vs', rfl, h1, h2⟩ := h.cons_inv
    cases n with
    | zero => simp; exact .nil
    | succ n => simp; exact .cons h1 (ih h2 n)
theorem IsL.drop {vs : List Value} {ds : List D} (h : IsL c G vs ds) (n : Nat) : IsL c G (vs.drop n) (ds.drop n) := by
  induction ds generalizing vs n with
  | nil => rw [h.nil_inv]; simp; exact .nil
  | cons d r ih =>
    obtain ⟨v, vs', rfl, h1, h2⟩ := h.cons_inv
    cases n with
    | zero => simp; exact .cons h1 h2
    | succ n => simp; exact ih h2 n
theorem IsL.set {vs : List Value} {ds : List D} (h : IsL c G vs ds) {v : Value} {d : D} (hv : Is c G v d) (n : Nat) : IsL c G (vs.set n v) (ds.set n d) := by
  induction ds generalizing vs n with
  | nil => rw [h.nil_inv]; simp; exact .nil
  | cons e r ih =>
    obtain ⟨u, vs', rfl, h1, h2⟩ := h.cons_inv
    cases n with
    | zero => simp; exact .cons hv h2
    | succ n => simp; exact .cons h1 (ih h2 n)
theorem IsL.eraseIdx {vs : List Value} {ds : List D} (h : IsL c G vs ds) (n : Nat) : IsL c G (vs.eraseIdx n) (ds.eraseIdx n) := by
  induction ds generalizing vs n with
  | nil => rw [h.nil_inv]; simp; exact .nil
  | cons e r ih =>
    obtain ⟨u, vs', rfl, h1, h2⟩ := h.cons_inv
    cases n with
    | zero => simp; exact h2
    | succ n => simp; exact .cons h1 (ih h2 n)
theorem IsL.replicate {vs : List Value} {ds : List D} (h : IsL c G vs ds) (n : Nat) : IsL c G (List.replicate n vs).flatten (List.replicate n ds).flatten := by
  induction n with
  | zero => exact .nil
  | succ n ih => simp only [List.replicate_succ, List.flatten_cons]; exact h.append ih

theorem IsKV.nil : IsKV c G [] [] := ⟨rfl, fun _ _ _ h => by simp at h⟩
theorem IsKV.cons {k : Str} {v : Value} {d : D} {vs : List (Str × Value)} {ds : List (Str × D)} (h : Is c G v d) (r : IsKV c G vs ds) : IsKV c G ((k, v) :: vs) ((k, d) :: ds) := by
  refine ⟨by simp [r.1], fun i x y a b => ?_⟩
  cases i with
  | zero => simp at a b; subst a b; exact h
  | succ i => simp only [List.map_cons, List.getElem?_cons_succ] at a b; exact r.2 i x y a b
theorem IsKV.nil_inv {vs : List (Str × Value)} (h : IsKV c G vs []) : vs = [] := by have := h.1; simpa using this
theorem IsKV.cons_inv {vs : List (Str × Value)} {k : Str} {d : D} {ds : List (Str × D)} (h : IsKV c G vs ((k, d) :: ds)) : ∃ v r, vs = (k, v) :: r ∧ Is c G v d ∧ IsKV c G r ds := by
  cases vs with
  | nil => have := h.1; simp at this
  | cons p r =>
    obtain ⟨k', v⟩ := p
    have h1 := h.1
    simp at h1
    obtain ⟨rfl, h1⟩ := h1
    exact ⟨v, r, rfl, h.2 0 v d rfl rfl, h1, fun i x y a b => h.2 (i + 1) x y (by simpa using a) (by simpa using b)⟩
theorem IsKV.length {vs : List (Str × Value)} {ds : List (Str × D)} (h : IsKV c G vs ds) : vs.length = ds.length := by
  have := congrArg List.length h.1
  simpa using this
theorem IsKV.at {vs : List (Str × Value)} {ds : List (Str × D)} (h : IsKV c G vs ds) (k : Str) : match ds.lookup k with
    | some d => ∃ v, valueAt vs k = some v ∧ Is c G v d
    | none => valueAt vs k = none := by
  induction ds generalizing vs with
  | nil => rw [h.nil_inv]; rfl
  | cons q r ih =>
    obtain ⟨k', d⟩ := q
    obtain ⟨v, vs', rfl, h1, h2⟩ := h.cons_inv
    rw [List.lookup_cons]
    by_cases e : k = k'
    · subst e
      simp [valueAt, h1]
    · have e1 : (k == k') = false := by simpa using e
      rw [e1]
      have e2 : valueAt ((k', v) :: vs') k = valueAt vs' k := by
        simp [valueAt, List.find?_cons, Ne.symm e]
      simp only [e2]
      exact ih h2
theorem IsKV.put {vs : List (Str × Value)} {ds : List (Str × D)} (h : IsKV c G vs ds) {v : Value} {d : D} (hv : Is c G v d) (k : Str) (hn : (vs.map (·.1)).Nodup) : IsKV c G (stored vs k v) (dset k d ds) := by
  induction ds generalizing vs with
  | nil =>
    rw [h.nil_inv]
    simp [stored, dset]
    exact .cons hv .nil
  | cons q r ih =>
    obtain ⟨k', d'⟩ := q
    obtain ⟨v', vs', rfl, h1, h2⟩ := h.cons_inv
    simp only [List.map_cons, List.nodup_cons] at hn
    by_cases e : k' = k
    · subst e
      have e1 : stored ((k', v') :: vs') k' v = (k', v) :: vs' := by
        unfold stored
        simp
        conv => rhs; rw [← List.map_id vs']
        refine List.map_congr_left fun p hp => ?_
        by_cases q : p.1 = k'
        · exact absurd (q ▸ List.mem_map_of_mem (f := (·.1)) hp) hn.1
        · simp [q]
      rw [e1]
      simp [dset]
      exact .cons hv h2
    · have e1 : stored ((k', v') :: vs') k v = (k', v') :: stored vs' k v := by
        unfold stored
        have e2 : decide (k' = k) = false := by simp [e]
        simp only [List.any_cons, e2, Bool.false_or, List.map_cons, if_neg e]
        split <;> simp_all
      rw [e1]
      simp [dset, e]
      exact .cons h1 (ih h2 hn.2)
theorem IsKV.zip {xs : List Str} {vs : List Value} {ds : List D} (h : IsL c G vs ds) (e : xs.length = ds.length) : IsKV c G (xs.zip vs) (xs.zip ds) := by
  induction ds generalizing xs vs with
  | nil => rw [h.nil_inv]; simp; exact .nil
  | cons d r ih =>
    obtain ⟨v, vs', rfl, h1, h2⟩ := h.cons_inv
    cases xs with
    | nil => simp at e
    | cons x xs => simp; exact .cons h1 (ih h2 (by simpa using e))
end

theorem exists_frzP {G h : Heap} (s : Sub G h) (P : Addr → Prop) :
    ∃ G', Sub G G' ∧ Sub G' h ∧ (∀ a o, P a → h.get? a = some o → G'.get? a = some o) ∧ ∀ b o', G'.get? b = some o' → P b ∨ G.get? b = some o' := by
  classical
  let l := (List.range h.objs.size).filter fun b => decide (¬ P b) && (G.get? b).isNone
  refine ⟨hideAll h l, fun b o' e' => ?_, fun b o' e' => of_hideAll l e', fun a o ha e => ?_, fun b o' e' => ?_⟩
  · refine hideAll_get l (s b o' e') fun hm => ?_
    have := (List.mem_filter.mp hm).2
    rw [e', Bool.and_comm] at this
    exact nopB <| this
  · refine hideAll_get l e fun hm => ?_
    have := (List.mem_filter.mp hm).2
    rw [decide_eq_false (not_not_intro ha)] at this
    exact nopB <| this
  · by_cases hb : P b
    · exact .inl hb
    · right
      cases q : G.get? b with
      | some o₂ =>
        have h1 := s b o₂ q
        have h2 := of_hideAll l e'
        rw [h1] at h2
        exact h2
      | none =>
        have hm : b ∈ l := List.mem_filter.mpr ⟨List.mem_range.mpr (Heap.lt_size (of_hideAll l e')), by simp [hb, q]⟩
        rw [hideAll_none l hm] at e'
        cases e'

theorem exists_frz {G h : Heap} (s : Sub G h) {a : Addr} {o : Obj} (e : h.get? a = some o) :
    ∃ G', Sub G G' ∧ Sub G' h ∧ G'.get? a = some o ∧ ∀ b o', G'.get? b = some o' → b = a ∨ G.get? b = some o' :=
  let ⟨G', h1, h2, h3, h4⟩ := exists_frzP s fun b => b = a; ⟨G', h1, h2, h3 a o rfl e, h4⟩

structure Base (c : Cx) (G : Heap) : Prop where
  K : c.K.In G
  g : G.Ns mainGlobals c.mg
  b : G.Ns builtinsNs c.mb
  nolim : G.NoLimit
  cells : G.get? c.ca = some (lstO c.cells c.cells.length)
theorem Base.mono {c : Cx} {G G' : Heap} (h : Base c G) (s : Sub G G') : Base c G' := ⟨h.K.keeps s, h.g.keeps s, h.b.keeps s, h.nolim.keeps s, s _ _ h.cells⟩

/-- the script's feed, after k draws -/
noncomputable def FeedAt (c : Cx) (k : Nat) (h : Heap) : Prop := ∃ t1 t2 : Tok, h.DictOf (PySem.strKind c.prog c.w) c.fa [("cells", .ref c.ca), ("at", .int k t1), ("mix", .int c.mix t2)]
theorem FeedAt.at {c : Cx} {k : Nat} {h h' : Heap} (x : FeedAt c k h) (e : ∀ o, h.get? c.fa = some o → h'.get? c.fa = some o) : FeedAt c k h' :=
  let ⟨t1, t2, o, es, ep, h1, r⟩ := x; ⟨t1, t2, o, es, ep, e o h1, r⟩

structure Ok (c : Cx) (G : Heap) (s : Shared) (k : Nat) : Prop where
  sub : Sub G s.heap
  base : Base c G
  nofa : G.get? c.fa = none
  feed : FeedAt c k s.heap

structure Step (c : Cx) (G G' : Heap) (s s' : Shared) (hot : Addr → Prop) : Prop where
  le : Sub G G'
  new : ∀ a o, G'.get? a = some o → G.get? a = some o ∨ s.heap.get? a = none ∨ hot a
  keep : ∀ a o, a ≠ c.fa → ¬ hot a → s.heap.get? a = some o → s'.heap.get? a = some o
  live : ∀ a, s.heap.get? a ≠ none → s'.heap.get? a ≠ none
  gens : s'.gens = s.gens
  drawn : s'.drawn = s.drawn
  os : s'.os = s.os

noncomputable def NoHot : Addr → Prop := fun _ => False
noncomputable abbrev StepE (c : Cx) (G G' : Heap) (s s' : Shared) : Prop := Step c G G' s s' NoHot

section
variable {c : Cx} {G G' G'' : Heap} {s s' s'' : Shared} {k k' : Nat}
theorem StepE.refl (G : Heap) (s : Shared) : StepE c G G s s := ⟨Sub.rfl', fun _ _ e => .inl e, fun _ _ _ _ e => e, fun _ e => e, rfl, rfl, rfl⟩
theorem StepE.trans (x : StepE c G G' s s') (y : StepE c G' G'' s' s'') : StepE c G G'' s s'' := by
  refine ⟨x.le.trans y.le, fun a o e => ?_, fun a o h1 h2 e => y.keep a o h1 h2 (x.keep a o h1 h2 e), fun a e => y.live a (x.live a e), y.gens.trans x.gens, y.drawn.trans x.drawn, y.os.trans x.os⟩
  rcases y.new a o e with e | e | e
  · exact x.new a o e
  · right; left
    cases q : s.heap.get? a with
    | none => rfl
    | some o' => exact absurd e (x.live a (by simp [q]))
  · exact e.elim
/-- nothing old turns, not even the feed -/
theorem StepE.of_keep {h' : Heap} {tk : Nat} (hk : ∀ b o, s.heap.get? b = some o → h'.get? b = some o) : StepE c G G s { s with heap := h', toks := tk } :=
  ⟨Sub.rfl', fun _ _ e => .inl e, fun a o _ _ e => hk a o e, fun a e => by
    cases q : s.heap.get? a with
    | none => exact absurd q e
    | some o => simp [hk a o q], rfl, rfl, rfl⟩
theorem Ok.keep {h' : Heap} {tk : Nat} (x : Ok c G s k) (hk : ∀ b o, s.heap.get? b = some o → h'.get? b = some o) : Ok c G { s with heap := h', toks := tk } k :=
  ⟨x.sub.trans hk, x.base, x.nofa, x.feed.at fun o e => hk _ o e⟩
theorem Ok.toks {tk : Nat} (x : Ok c G s k) : Ok c G { s with toks := tk } k := ⟨x.sub, x.base, x.nofa, x.feed⟩
theorem Ok.falive (x : Ok c G s k) : s.heap.get? c.fa ≠ none := by
  obtain ⟨t1, t2, o, es, ep, h1, _⟩ := x.feed
  simp [h1]
theorem Ok.K (x : Ok c G s k) : c.K.In s.heap := x.base.K.keeps x.sub

/-- an object made by this step and frozen at once -/
theorem Ok.frz {h' : Heap} {tk : Nat} {a : Addr} {o : Obj} (x : Ok c G s k) (hk : ∀ b o, s.heap.get? b = some o → h'.get? b = some o) (ha : s.heap.get? a = none) (ho : h'.get? a = some o) :
    ∃ G', Ok c G' { s with heap := h', toks := tk } k ∧ StepE c G G' s { s with heap := h', toks := tk } ∧ G'.get? a = some o := by
  obtain ⟨G', h1, h2, h3, h4⟩ := exists_frz (x.sub.trans hk) ho
  refine ⟨G', ⟨h2, x.base.mono h1, ?_, x.feed.at fun o e => hk _ o e⟩, ⟨h1, fun b o' e => ?_, fun b o' _ _ e => hk b o' e, fun b e => ?_, rfl, rfl, rfl⟩, h3⟩
  · cases q : G'.get? c.fa with
    | none => rfl
    | some o' =>
      rcases h4 _ _ q with e | e
      · exact absurd ha (e ▸ x.falive)
      · rw [x.nofa] at e; cases e
  · rcases h4 b o' e with e | e
    · subst e; exact .inr (.inl ha)
    · exact .inl e
  · cases q : s.heap.get? b with
    | none => exact absurd q e
    | some o => simp [hk b o q]
theorem fresh_size (h : Heap) : h.get? h.objs.size = none := by
  cases q : h.get? h.objs.size with
  | none => rfl
  | some o => exact absurd (Heap.lt_size q) (Nat.lt_irrefl _)
theorem Ok.push {o : Obj} {tk : Nat} (x : Ok c G s k) (hf : o.isFreed = false := by rfl) :
    ∃ G', Ok c G' { s with heap := s.heap.push o, toks := tk } k ∧ StepE c G G' s { s with heap := s.heap.push o, toks := tk } ∧ G'.get? s.heap.objs.size = some o :=
  x.frz (fun b o' e => Heap.get?_push_of_some _ e) (fresh_size _) (Heap.get?_push_size _ hf)
end

/-- a list or a dict that one name alone holds -/
inductive Own (c : Cx) (G h : Heap) : Value → D → Prop
  | lst {a : Addr} {vs : List Value} {n : Nat} {ds : List D} : G.get? a = none → a ≠ c.fa → h.get? a = some (lstO vs n) → IsL c G vs ds → Own c G h (.ref a) (.lst ds)
  | dct {a : Addr} {kvs : List (Str × Value)} {l : List (Str × D)} : G.get? a = none → a ≠ c.fa → (a == sysModules) = false → h.DictOf (PySem.strKind c.prog c.w) a kvs → IsKV c G kvs l → Own c G h (.ref a) (.dct l)

noncomputable def VR (c : Cx) (G h : Heap) (own : Bool) (v : Value) (d : D) : Prop := match own with
  | false => Is c G v d
  | true => Own c G h v d

/-- what a value is just now: frozen, or a name's own -/
noncomputable def Now (c : Cx) (G h : Heap) (v : Value) (d : D) : Prop := Is c G v d ∨ Own c G h v d

inductive PostE (c : Cx) (G : Heap) (s : Shared) (k : Nat) (own : Bool) (d : D) (v : Value) (s' : Shared) : Prop
  | mk (G' : Heap) (h1 : Ok c G' s' k) (h2 : StepE c G G' s s') (h3 : VR c G' s'.heap own v d) (h4 : own = true → ∀ a, v = .ref a → s.heap.get? a = none) : PostE c G s k own d v s'
inductive PostI (c : Cx) (G : Heap) (s : Shared) (k : Nat) (d : D) (v : Value) (s' : Shared) : Prop
  | mk (G' : Heap) (h1 : Ok c G' s' k) (h2 : StepE c G G' s s') (h3 : Is c G' v d) : PostI c G s k d v s'
inductive PostT (c : Cx) (G : Heap) (s : Shared) (k : Nat) (d : D) (v : Value) (s' : Shared) : Prop
  | mk (G' : Heap) (h1 : Ok c G' s' k) (h2 : StepE c G G' s s') (h3 : Now c G' s'.heap v d) : PostT c G s k d v s'
noncomputable def NoE : Value → Shared → Prop := fun _ _ => False

section
variable {c : Cx} {G G' : Heap} {s s' s'' : Shared} {k : Nat} {own : Bool} {v : Value} {d : D}
theorem Own.mono {h h' : Heap} (x : Own c G h v d) (hs : Sub G G') (hn : ∀ a, v = .ref a → G.get? a = none → G'.get? a = none) (hk : ∀ a o, v = .ref a → a ≠ c.fa → h.get? a = some o → h'.get? a = some o) : Own c G' h' v d := by
  cases x with
  | lst h1 h2 h3 h4 => exact .lst (hn _ rfl h1) h2 (hk _ _ rfl h2 h3) (h4.mono hs)
  | dct h1 h2 h0 h3 h4 =>
    obtain ⟨o, es, ep, e, r⟩ := h3
    exact .dct (hn _ rfl h1) h2 h0 ⟨o, es, ep, hk _ _ rfl h2 e, r⟩ (h4.mono hs)
theorem Own.live {h : Heap} (x : Own c G h v d) : ∃ a, v = .ref a ∧ h.get? a ≠ none ∧ a ≠ c.fa ∧ G.get? a = none := by
  cases x with
  | lst h1 h2 h3 h4 => exact ⟨_, rfl, by simp [h3], h2, h1⟩
  | dct h1 h2 h0 h3 h4 =>
    obtain ⟨o, es, ep, e, r⟩ := h3
    exact ⟨_, rfl, by simp [e], h2, h1⟩
theorem Own.step (x : Own c G s.heap v d) (t : StepE c G G' s s') : Own c G' s'.heap v d := by
  obtain ⟨a, rfl, ha, hf, hg⟩ := x.live
  refine x.mono t.le (fun b e hb => ?_) fun b o e hb ho => t.keep b o hb id ho
  cases e
  cases q : G'.get? a with
  | none => rfl
  | some o =>
    rcases t.new a o q with e | e | e
    · rw [hg] at e; cases e
    · exact absurd e ha
    · exact e.elim
theorem Now.step (x : Now c G s.heap v d) (t : StepE c G G' s s') : Now c G' s'.heap v d := x.imp (fun y => y.mono t.le) fun y => y.step t
theorem VR.now {h : Heap} (x : VR c G h own v d) : Now c G h v d := by
  cases own with
  | false => exact .inl x
  | true => exact .inr x
theorem PostE.now (x : PostE c G s k own d v s') : PostT c G s k d v s' := let ⟨G', h1, h2, h3, _⟩ := x; ⟨G', h1, h2, h3.now⟩
theorem PostE.trans (t : StepE c G G' s s') (x : PostE c G' s' k own d v s'') : PostE c G s k own d v s'' := by
  obtain ⟨G'', h1, h2, h3, h4⟩ := x
  refine ⟨G'', h1, t.trans h2, h3, fun ho a e => ?_⟩
  cases q : s.heap.get? a with
  | none => rfl
  | some o => exact absurd (h4 ho a e) (t.live a (by simp [q]))
theorem PostT.trans (t : StepE c G G' s s') (x : PostT c G' s' k d v s'') : PostT c G s k d v s'' := by
  obtain ⟨G'', h1, h2, h3⟩ := x
  exact ⟨G'', h1, t.trans h2, h3⟩
theorem PostE.is (x : PostE c G s k false d v s') : PostI c G s k d v s' := let ⟨G', h1, h2, h3, _⟩ := x; ⟨G', h1, h2, h3⟩
theorem PostE.mk' (h1 : Ok c G' s' k) (h2 : StepE c G G' s s') (h3 : Is c G' v d) : PostE c G s k false d v s' := ⟨G', h1, h2, h3, fun e => nopB <| e⟩
theorem Own.frz {h : Heap} {a : Addr} {o : Obj} {d : D} (w : Own c G h (.ref a) d) (g1 : Sub G G') (ho : h.get? a = some o) (g3 : G'.get? a = some o) : Is c G' (.ref a) d := by
  cases w with
  | lst k1 k2 k3 k4 => exact .lst (g3.trans (ho.symm.trans k3)) k4.1 (k4.mono g1).2
  | dct k1 k2 k0 k3 k4 =>
    obtain ⟨o', es, ep, e, r⟩ := k3
    exact .dct k0 ⟨o', es, ep, g3.trans (ho.symm.trans e), r⟩ k4.1 (k4.mono g1).2
theorem frzD {D : Addr} {d : Mine.D} (h1 : Ok c G' s' k) (h2 : StepE c G G' s s') (w : Own c G' s'.heap (.ref D) d) (hD : s.heap.get? D = none) :
    ∃ G₁, Ok c G₁ s' k ∧ StepE c G G₁ s s' ∧ Is c G₁ (.ref D) d ∧ (∀ b, b ≠ D → G'.get? b = none → G₁.get? b = none) ∧ Sub G' G₁ := by
  obtain ⟨a, e0, ha, hf, hg⟩ := w.live
  cases e0
  obtain ⟨o, ho⟩ := Option.ne_none_iff_exists'.mp ha
  obtain ⟨G₂, g1, g2, g3, g4⟩ := exists_frz h1.sub ho
  have no : ∀ b, b ≠ D → G'.get? b = none → G₂.get? b = none := fun b hb e => by
    cases q : G₂.get? b with
    | none => rfl
    | some o' =>
      rcases g4 _ _ q with e' | e'
      · exact absurd e' hb
      · rw [e] at e'; cases e'
  refine ⟨G₂, ⟨g2, h1.base.mono g1, no _ (Ne.symm hf) h1.nofa, h1.feed⟩, ⟨h2.le.trans g1, fun b o' e => ?_, h2.keep, h2.live, h2.gens, h2.drawn, h2.os⟩, ?_, no, g1⟩
  · rcases g4 b o' e with e | e
    · subst e; exact .inr (.inl hD)
    · exact h2.new b o' e
  · exact w.frz g1 ho g3
/-- a fresh own value is frozen -/
theorem PostE.frz (x : PostE c G s k own d v s') : PostE c G s k false d v s' := by
  obtain ⟨G₁, h1, h2, h3, h4⟩ := x
  cases own with
  | false => exact ⟨G₁, h1, h2, h3, fun e => nopB <| e⟩
  | true =>
    obtain ⟨a, rfl, _⟩ := Own.live (h := s'.heap) h3
    obtain ⟨G₂, g1, g2, g3, _⟩ := frzD h1 h2 h3 (h4 rfl _ rfl)
    exact ⟨G₂, g1, g2, g3, fun e => nopB <| e⟩
end
end Mine

-- G2
namespace Mine

noncomputable abbrev Mo (c : Cx) : Model := model c.prog c.w

structure AOk (κ : Nat) (A : Around) : Prop where
  handled : A.handled = none
  depth : A.depth + κ < recursionLimit
  units : A.units + 8 * κ + 100 < cLine

/-- what the names of a block hold -/
structure Fram (PE : Env) (h : Heap) (m : Str → Option Value) : Prop where
  kind : PE.scope.kind = .function
  glob : PE.globals = mainGlobals
  bl : PE.builtins = builtinsNs
  loc : ∃ ml, h.Ns PE.locals ml ∧ ∀ x, x ≠ (".0" : Str) → PE.kindOf x = some .local → ml x = m x
  cel : ∀ x, PE.kindOf x = some .cell → ∃ a, PE.cells.lookup x = some a ∧ h.IsCell a (m x)

noncomputable def FHot (PE : Env) (a : Addr) : Prop := a = PE.locals ∨ ∃ x, PE.kindOf x = some .cell ∧ PE.cells.lookup x = some a

theorem Fram.live {PE : Env} {h : Heap} {m : Str → Option Value} (F : Fram PE h m) {a : Addr} (x : FHot PE a) : h.get? a ≠ none := by
  rcases x with rfl | ⟨x, h1, h2⟩
  · obtain ⟨ml, ⟨o, es, ep, e, _⟩, _⟩ := F.loc
    simp [e]
  · obtain ⟨b, h3, o, e, _⟩ := F.cel x h1
    rw [h2] at h3; cases h3
    simp [e]
theorem Fram.keep {PE : Env} {h h' : Heap} {m : Str → Option Value} (F : Fram PE h m) (k : ∀ a o, FHot PE a → h.get? a = some o → h'.get? a = some o) : Fram PE h' m := by
  refine ⟨F.kind, F.glob, F.bl, ?_, fun x hx => ?_⟩
  · obtain ⟨ml, ⟨o, es, ep, e, r⟩, q⟩ := F.loc
    exact ⟨ml, ⟨o, es, ep, k _ _ (.inl rfl) e, r⟩, q⟩
  · obtain ⟨a, h1, o, e, r⟩ := F.cel x hx
    exact ⟨a, h1, o, k _ _ (.inr ⟨x, hx, h1⟩) e, r⟩

structure St (c : Cx) (PE : Env) (G : Heap) (s : Shared) (k : Nat) (m : Str → Option Value) (vars : Vars) : Prop where
  ok : Ok c G s k
  fr : Fram PE s.heap m
  hotG : ∀ a, FHot PE a → G.get? a = none ∧ a ≠ c.fa
  val : ∀ x o d, vars.lookup x = some (o, d) → ∃ v, m x = some v ∧ VR c G s.heap o v d
  sep : ∀ x y d d' a, vars.lookup x = some (true, d) → vars.lookup y = some (true, d') → m x = some (.ref a) → m y = some (.ref a) → x = y
  hot : ∀ x d a, vars.lookup x = some (true, d) → m x = some (.ref a) → ¬ FHot PE a

section
variable {c : Cx} {PE : Env} {G G' : Heap} {s s' : Shared} {k k' : Nat} {m : Str → Option Value} {vars : Vars} {A : Around} {κ : Nat}

theorem VR.step {own : Bool} {v : Value} {d : D} (x : VR c G s.heap own v d) (t : StepE c G G' s s') : VR c G' s'.heap own v d := by
  cases own with
  | false => exact Is.mono x t.le
  | true => exact Own.step x t

theorem St.step (x : St c PE G s k m vars) (t : StepE c G G' s s') (o : Ok c G' s' k') : St c PE G' s' k' m vars := by
  refine ⟨o, x.fr.keep fun a ob h e => t.keep a ob (x.hotG a h).2 id e, fun a h => ⟨?_, (x.hotG a h).2⟩, fun n ow d e => ?_, x.sep, x.hot⟩
  · cases q : G'.get? a with
    | none => rfl
    | some ob =>
      rcases t.new a ob q with e | e | e
      · rw [(x.hotG a h).1] at e; cases e
      · exact absurd e (x.fr.live h)
      · exact e.elim
  · obtain ⟨v, h1, h2⟩ := x.val n ow d e
    exact ⟨v, h1, h2.step t⟩
theorem St.toks (x : St c PE G s k m vars) (tk : Nat) : St c PE G { s with toks := tk } k m vars := x.step (StepE.of_keep fun _ _ e => e) x.ok.toks
theorem StepE.toks (tk : Nat) : StepE c G G s { s with toks := tk } := StepE.of_keep fun _ _ e => e
theorem PostE.here {d : D} {v : Value} (o : Ok c G s k) (h : Is c G v d) : PostE c G s k false d v s := .mk' o (.refl _ _) h
theorem PostE.tok {d : D} {v : Value} (o : Ok c G s k) (tk : Nat) (h : Is c G v d) : PostE c G s k false d v { s with toks := tk } := .mk' o.toks (.toks tk) h

theorem s_debug : (⟨#[95, 95, 100, 101, 98, 117, 103, 95, 95]⟩ : Str) = ("__debug__" : Str) := by decide +kernel
theorem s_dot0 : (⟨#[46, 48]⟩ : Str) = (".0" : Str) := by decide +kernel
theorem isLoc_kind {n : Str} (h : isLoc PE.scope.names n = true) : (PE.kindOf n = some .local ∨ PE.kindOf n = some .cell) ∧ (n == ("__debug__" : Str)) = false ∧ n ≠ (".0" : Str) := by
  unfold isLoc at h
  rw [Bool.and_eq_true, Bool.and_eq_true, Bool.or_eq_true] at h
  rw [s_debug, s_dot0] at h
  refine ⟨h.1.1.imp (fun e => ?_) fun e => ?_, by simpa using h.1.2, by simpa using h.2⟩ <;> exact eq_of_beq e
theorem isGlob_kind {n : Str} (h : isGlob PE.scope.names n = true) : PE.kindOf n = some .globalImplicit ∧ (n == ("__debug__" : Str)) = false := by
  unfold isGlob at h
  rw [Bool.and_eq_true, s_debug] at h
  exact ⟨eq_of_beq h.1, by simpa using h.2⟩

theorem Fram.load {M : Model} {E : Value → Shared → Prop} (F : Fram PE s.heap m) {n : Str} {pos : Pos} {v : Value} {Q : Value → Shared → Prop} (hx : isLoc PE.scope.names n = true) (hv : m n = some v) (h : Q v s) :
    wpAny M A (eval (.Name n pos) PE) Q E s := by
  obtain ⟨hk, hd, h0⟩ := isLoc_kind hx
  refine wpAny_Name ?_ hd
  rcases hk with hk | hk
  · obtain ⟨ml, hn, hm⟩ := F.loc
    exact wpAny_loadName_local F.kind hk hn ((hm n h0 hk).trans hv) h
  · obtain ⟨a, ha, hc⟩ := F.cel n hk
    exact wpAny_loadName_cell F.kind hk ha (hv ▸ hc) h
theorem St.glob {E : Value → Shared → Prop} (x : St c PE G s k m vars) {n : Str} {pos : Pos} {v : Value} {Q : Value → Shared → Prop} (hx : isGlob PE.scope.names n = true) (hv : c.mg n = some v) (h : Q v s) :
    wpAny (Mo c) A (eval (.Name n pos) PE) Q E s := by
  obtain ⟨hk, hd⟩ := isGlob_kind hx
  exact Name_function_global x.fr.kind hk (loadGlobal_global (by rw [x.fr.glob]; exact x.ok.base.g.keeps x.ok.sub) hv h) hd
theorem St.bltn {E : Value → Shared → Prop} (x : St c PE G s k m vars) {n : Str} {pos : Pos} {v : Value} {Q : Value → Shared → Prop} (hx : isGlob PE.scope.names n = true) (hn : c.mg n = none) (hv : c.mb n = some v) (h : Q v s) :
    wpAny (Mo c) A (eval (.Name n pos) PE) Q E s := by
  obtain ⟨hk, hd⟩ := isGlob_kind hx
  exact Name_function_global x.fr.kind hk (loadGlobal_builtin (by rw [x.fr.glob]; exact x.ok.base.g.keeps x.ok.sub) hn (by rw [x.fr.bl]; exact x.ok.base.b.keeps x.ok.sub) hv h) hd

/-! what a value is, by its tree -/
theorem Now.lst {h : Heap} (hs : Sub G h) {v : Value} {l : List D} (x : Now c G h v (.lst l)) : ∃ a vs n, v = .ref a ∧ h.get? a = some (lstO vs n) ∧ IsL c G vs l := by
  rcases x with x | x
  · cases x with
    | lst h1 h2 h3 => exact ⟨_, _, _, rfl, hs _ _ h1, h2, h3⟩
  · cases x with
    | lst h1 h2 h3 h4 => exact ⟨_, _, _, rfl, h3, h4⟩
theorem Now.tup {h : Heap} (hs : Sub G h) {v : Value} {l : List D} (x : Now c G h v (.tup l)) : ∃ a vs n, v = .ref a ∧ h.get? a = some (tupO vs n) ∧ IsL c G vs l := by
  rcases x with x | x
  · cases x with
    | tup h1 h2 h3 => exact ⟨_, _, _, rfl, hs _ _ h1, h2, h3⟩
  · cases x
theorem Now.tupIs {h : Heap} {v : Value} {l : List D} (x : Now c G h v (.tup l)) : Is c G v (.tup l) := x.elim id fun z => nomatch z
theorem IsL.ne {vs : List Value} {l : List D} (h : IsL c G vs l) (hl : l ≠ []) : ¬ vs.toArray.isEmpty = true := fun e => by
  cases vs with
  | nil => exact hl (List.length_eq_zero_iff.mp h.1.symm)
  | cons v r => exact nopB <| e
theorem Now.dct {h : Heap} (hs : Sub G h) {v : Value} {l : List (Str × D)} (x : Now c G h v (.dct l)) : ∃ a kvs, v = .ref a ∧ (a == sysModules) = false ∧ h.DictOf (PySem.strKind c.prog c.w) a kvs ∧ IsKV c G kvs l := by
  rcases x with x | x
  · cases x with
    | dct h0 h1 h2 h3 => exact ⟨_, _, rfl, h0, h1.keep hs, h2, h3⟩
  · cases x with
    | dct h1 h2 h0 h3 h4 => exact ⟨_, _, rfl, h0, h3, h4⟩
theorem Now.int {h : Heap} {v : Value} {i : Int} (x : Now c G h v (.int i)) : ∃ t, v = .int i t := by
  rcases x with x | x <;> cases x
  exact ⟨_, rfl⟩
theorem Now.str {h : Heap} {v : Value} {i : Str} (x : Now c G h v (.str i)) : ∃ t, v = .str i t := by
  rcases x with x | x <;> cases x
  exact ⟨_, rfl⟩
theorem Now.bool {h : Heap} {v : Value} {i : Bool} (x : Now c G h v (.bool i)) : v = .bool i := by
  rcases x with x | x <;> cases x
  rfl
theorem isList_of {h : Heap} {a : Addr} {vs : List Value} {n : Nat} (e : h.get? a = some (lstO vs n)) : h.IsList a vs.toArray := ⟨_, e, rfl, n, rfl⟩
theorem isTup_of {h : Heap} {a : Addr} {vs : List Value} {n : Nat} (e : h.get? a = some (tupO vs n)) : h.IsTuple a vs.toArray := ⟨_, e, rfl, n, rfl⟩

theorem lim_size {n : Nat} (h : n ≤ lim) : n ≤ sizeLine := Nat.le_trans h (by unfold lim; rw [sizeLine_eq]; decide)

/-- an immutable object made and frozen -/
theorem Ok.made {A : Around} (x : Ok c G s k) {d : D} {o : Obj} {tk : Nat} (hf : o.isFreed = false) (h : ∀ G', Sub G G' → G'.get? s.heap.objs.size = some o → Is c G' (.ref s.heap.objs.size) d) :
    PostE c G s k false d (.ref s.heap.objs.size) { s with heap := s.heap.push o, toks := tk } := by
  obtain ⟨G', h1, h2, h3⟩ := x.push (o := o) (tk := tk) hf
  exact .mk' h1 h2 (h G' h2.le h3)
theorem Ok.madeTup (x : Ok c G s k) {vs : List Value} {ds : List D} {tk n : Nat} (h : IsL c G vs ds) : PostE c G s k false (.tup ds) (.ref s.heap.objs.size) { s with heap := s.heap.push (tupO vs n), toks := tk } := by
  obtain ⟨G', h1, h2, h3⟩ := x.push (o := tupO vs n) (tk := tk) rfl
  exact .mk' h1 h2 (.tup h3 h.1 (h.mono h2.le).2)
theorem Ok.madeLst (x : Ok c G s k) {vs : List Value} {ds : List D} {tk n : Nat} (h : IsL c G vs ds) : PostE c G s k true (.lst ds) (.ref s.heap.objs.size) { s with heap := s.heap.push (lstO vs n), toks := tk } := by
  have hk : ∀ b o, s.heap.get? b = some o → (s.heap.push (lstO vs n)).get? b = some o := fun b o e => Heap.get?_push_of_some _ e
  refine ⟨G, x.keep hk, StepE.of_keep hk, ?_, fun _ a e => by cases e; exact fresh_size _⟩
  refine Own.lst (n := n) ?_ (fun e => ?_) (Heap.get?_push_size _ rfl) h
  · cases q : G.get? s.heap.objs.size with
    | none => rfl
    | some o => have := x.sub _ _ q; rw [fresh_size] at this; cases this
  · exact x.falive (e ▸ fresh_size _)
/-- a list that stands somewhere new -/
theorem Ok.newLst (x : Ok c G s k) {h' : Heap} {a : Addr} {vs : List Value} {ds : List D} {tk n : Nat} (hk : ∀ b o, s.heap.get? b = some o → h'.get? b = some o) (ha : s.heap.get? a = none) (ho : h'.get? a = some (lstO vs n)) (h : IsL c G vs ds) :
    PostE c G s k true (.lst ds) (.ref a) { s with heap := h', toks := tk } := by
  refine ⟨G, x.keep hk, StepE.of_keep hk, ?_, fun _ b e => by cases e; exact ha⟩
  refine Own.lst (n := n) ?_ (fun e => ?_) ho h
  · cases q : G.get? a with
    | none => rfl
    | some o => have := x.sub _ _ q; rw [ha] at this; cases this
  · exact x.falive (e ▸ ha)
end

theorem allOf_map {α : Type} {f : D → Option α} {g : α → D} (hf : ∀ d x, f d = some x → d = g x) : ∀ {l : List D} {ys : List α}, allOf f l = some ys → l = ys.map g
  | [], _, h => by cases h; rfl
  | d :: r, ys, h => by
    obtain ⟨x, h1, h⟩ := Option.bind_eq_some_iff.mp h
    obtain ⟨t, h2, rfl⟩ := Option.map_eq_some_iff.mp h
    rw [hf d x h1, allOf_map hf h2]; rfl
theorem strD_of (d : D) (x : Str) (h : strD d = some x) : d = .str x := by cases d <;> first | (cases h; rfl) | exact nopO <| h
theorem boolD_of (d : D) (x : Bool) (h : boolD d = some x) : d = .bool x := by cases d <;> first | (cases h; rfl) | exact nopO <| h
theorem intD_of (d : D) (x : Int) (h : intD d = some x) : d = .int x := by cases d <;> first | (cases h; rfl) | exact nopO <| h
theorem lstD_of (d : D) (x : List D) (h : lstD d = some x) : d = .lst x := by cases d <;> first | (cases h; rfl) | exact nopO <| h
theorem tupD_of (d : D) (x : List D) (h : tupD d = some x) : d = .tup x := by cases d <;> first | (cases h; rfl) | exact nopO <| h
theorem allStr_map {l : List D} {ys : List Str} (h : allStr l = some ys) : l = ys.map .str := allOf_map strD_of h
theorem allBool_map {l : List D} {ys : List Bool} (h : allBool l = some ys) : l = ys.map .bool := allOf_map boolD_of h

theorem foldl_app {α : Type} : ∀ (l : List (Array α)) (a : Array α), l.foldl (fun x y => x ++ y) a = (a.toList ++ (l.map (·.toList)).flatten).toArray
  | [], a => by simp
  | x :: r, a => by rw [List.foldl_cons, foldl_app r]; simp
theorem small_le {i : Int} (h : small i = true) : -4096 ≤ i ∧ i ≤ 4096 := by
  unfold small at h
  rw [Bool.and_eq_true, decide_eq_true_eq, decide_eq_true_eq] at h
  exact h

section
variable {c : Cx} {A : Around} {G : Heap} {s : Shared} {k : Nat}
/-- what an operator does upon two values -/
noncomputable def BinP (c : Cx) (op : Operator) (da db : D) (r : Bool × D) : Prop :=
  ∀ (A : Around) (G : Heap) (s : Shared) (k : Nat) (a b : Value), Ok c G s k → Now c G s.heap a da → Now c G s.heap b db → wpAny (Mo c) A (binaryOp op a b) (PostE c G s k r.1 r.2) NoE s
theorem BinP.ints {op : Operator} {i j : Int} {r : Bool × D} (h : ∀ (A : Around) (G : Heap) (s : Shared) (k : Nat) (t u : Tok), Ok c G s k → wpAny (Mo c) A (binaryOp op (.int i t) (.int j u)) (PostE c G s k r.1 r.2) NoE s) : BinP c op (.int i) (.int j) r := by
  intro A G s k a b x ha hb
  obtain ⟨t, rfl⟩ := ha.int
  obtain ⟨u, rfl⟩ := hb.int
  exact h A G s k t u x
theorem BinP.i2 {cl : Cl} {op : Operator} {a b : D} {F : Int → Int → M (Bool × D)} (h : ∀ i j, Yl cl (F i j) (BinP c op (.int i) (.int j))) : Yl cl (int2 a b F) (BinP c op a b) :=
  .bind .asI fun i e => .bind .asI fun j e' => by subst e e'; exact h i j

theorem b_addStr {x y : Str} (hl : x.length + y.length ≤ lim) : BinP c .Add (.str x) (.str y) (false, .str (x ++ y)) := by
  intro A G s k a b o ha hb
  obtain ⟨t, rfl⟩ := ha.str
  obtain ⟨u, rfl⟩ := hb.str
  exact add_str (fun t' tk => .tok o _ (.str _ _)) (lim_size hl)
theorem two_size {vs ws : List Value} {x y : List D} (h2 : IsL c G vs x) (h4 : IsL c G ws y) (hl : x.length + y.length ≤ lim) : vs.toArray.size + ws.toArray.size ≤ sizeLine := by
  rw [List.size_toArray, List.size_toArray, h2.1, h4.1]
  exact lim_size hl
theorem b_addLst {x y : List D} (hl : x.length + y.length ≤ lim) : BinP c .Add (.lst x) (.lst y) (true, .lst (x ++ y)) := by
  intro A G s k a b o ha hb
  obtain ⟨p, vs, n, rfl, h1, h2⟩ := ha.lst o.sub
  obtain ⟨q, ws, n', rfl, h3, h4⟩ := hb.lst o.sub
  refine P.add_list h1 h3 ?_ (two_size h2 h4 hl)
  rw [List.append_toArray]
  exact o.madeLst (tk := s.toks) (n := 0) (h2.append h4)
theorem b_addTup {x y : List D} (hl : x.length + y.length ≤ lim) : BinP c .Add (.tup x) (.tup y) (false, .tup (x ++ y)) := by
  intro A G s k a b o ha hb
  have hbI := hb.tupIs
  have haI := ha.tupIs
  obtain ⟨p, vs, n, rfl, h1, h2⟩ := ha.tup o.sub
  obtain ⟨q, ws, n', rfl, h3, h4⟩ := hb.tup o.sub
  by_cases hv : x = []
  · subst hv
    cases h2.nil_inv
    exact concat_meets ⟨_, h1, rfl⟩ ⟨_, h3, rfl⟩ noFill_tuple_add seq_tuple_add PySem.F.slot_tuple_add PySem.F.entry_tuple_add (PySem.F.args_tuple_add_2 _ _)
      (tuple_addW0 p q _ ws.toArray n n' none none #[] #[] rfl) ⟨h1, h3, .here o hbI⟩
  · have hv' : ¬ vs.toArray.isEmpty = true := h2.ne hv
    by_cases hw : y = []
    · subst hw
      cases h4.nil_inv
      refine concat_meets ⟨_, h1, rfl⟩ ⟨_, h3, rfl⟩ noFill_tuple_add seq_tuple_add PySem.F.slot_tuple_add PySem.F.entry_tuple_add (PySem.F.args_tuple_add_2 _ _)
        (tuple_addW1 p q vs.toArray _ n n' none none #[] #[] hv' rfl) ⟨h1, h3, ?_⟩
      rw [List.append_nil]
      exact .here o haI
    · refine concat_meets ⟨_, h1, rfl⟩ ⟨_, h3, rfl⟩ noFill_tuple_add seq_tuple_add PySem.F.slot_tuple_add PySem.F.entry_tuple_add (PySem.F.args_tuple_add_2 _ _)
        (tuple_addW2 p q vs.toArray ws.toArray n n' none none #[] #[] hv' (h4.ne hw) (two_size h2 h4 hl)) ⟨h1, h3, ?_⟩
      rw [List.append_toArray]
      exact o.madeTup (tk := s.toks) (n := 0) (h2.append h4)
theorem rep_arr {vs : List Value} {n : Nat} : List.foldl (fun x1 x2 => x1 ++ x2) #[] (List.replicate (if vs.toArray.isEmpty = true then 0 else n) vs.toArray) = ((List.replicate n vs).flatten).toArray := by
  rw [foldl_app]
  cases vs with
  | nil => simp
  | cons v r => simp [List.map_replicate]
theorem b_mulLst {x : List D} {i : Int} (h1 : x.length ≤ 64) (h2 : 0 ≤ i) (h3 : i ≤ 64) : BinP c .Mult (.lst x) (.int i) (true, .lst (List.replicate i.toNat x).flatten) := by
  intro A G s k a b o ha hb
  obtain ⟨p, vs, n, rfl, g1, g2⟩ := ha.lst o.sub
  obtain ⟨u, rfl⟩ := hb.int
  have hz : vs.length * i.toNat ≤ 64 * 64 := Nat.mul_le_mul (g2.1 ▸ h1) (Int.toNat_le.mpr h3)
  have hz3 : (vs.toArray.size : Int) * (i.toNat : Int) ≤ 4096 := by rw [List.size_toArray]; exact_mod_cast hz
  refine wpAny_binaryOp_repeat_ref (T := "list") (U := "int") (by decide) ⟨_, g1, rfl⟩ (fun s' => typeIs_int s' i u) noFill_list_mul F.fills_int_mul F.slot_int_rmul repeat_list F.slot_int_index.lookup
    (call_meets F.slot_int_rmul (typeIs_int s i u) F.entry_int_rmul (F.args_int_rmul_2 _ _) (int___rmul___int_list i u p vs.toArray n)
      ⟨g1, rfl, ⟨_, g1, rfl⟩, call_meets F.slot_list_mul ⟨_, g1, rfl⟩ F.entry_list_mul (F.args_list_mul_2 _ _)
        (AutoListH.list___mul___list_int_3 p vs.toArray n i u (by simp [Builtin.List.listFitsIndex]; omega) (by omega) (by simp [Builtin.List.listTooLong, sizeLine]; omega))
        ⟨g1, ?_⟩⟩)
  rw [rep_arr]
  exact o.madeLst (tk := s.toks) (n := 0) (g2.replicate i.toNat)
theorem b_mulInt {i j : Int} (h : small i = true) : BinP c .Mult (.int i) (.int j) (false, .int (i * j)) :=
  .ints fun A G s k t u x => mul_int (.tok x _ (.int _ _)) (IntMulOk.of_left (intBits_le_64 (by have := small_le h; omega) (by have := small_le h; omega)))
theorem b_divInt {i j : Int} (h : small j = true) (h0 : 0 < j) : BinP c .FloorDiv (.int i) (.int j) (false, .int (i.fdiv j)) :=
  .ints fun A G s k t u x => floordiv_int (Int.ne_of_gt h0) (.tok x _ (.int _ _)) (.inl (PyProof.noPylong_small (by have := small_le h; omega)))
theorem b_shlInt {i j : Int} (h : small i = true) (h0 : 0 ≤ j) (h1 : j ≤ 64) : BinP c .LShift (.int i) (.int j) (false, .int (i * 2 ^ j.toNat)) :=
  .ints fun A G s k t u x => lshift_int_small h0 (by omega) (by have := small_le h; omega) (.tok x _ (.int _ _))
theorem and3 {a b c : Bool} (h : (a && b && c) = true) : a = true ∧ b = true ∧ c = true := by
  rw [Bool.and_eq_true, Bool.and_eq_true] at h
  exact ⟨h.1.1, h.1.2, h.2⟩
theorem and2 {a b : Bool} (h : (a && b) = true) : a = true ∧ b = true := by
  rw [Bool.and_eq_true] at h
  exact h
theorem dec {p : Prop} [Decidable p] (h : decide p = true) : p := of_decide_eq_true h
theorem add_snd {cl : Cl} (a b : D) : Yl cl (addM a b) (BinP c .Add a b) := by
  cases a
  case int i => exact .bind .asI fun j e => by subst e; exact .ret (.ints fun A G s k t u x => add_int (.tok x _ (.int _ _)))
  case str x => exact .bind .asS fun y e => .ask fun h => by subst e; exact .ret (b_addStr (dec h))
  case lst x => exact .bind .asLst fun y e => .ask fun h => by subst e; exact .ret (b_addLst (dec h))
  case tup x => exact .bind .asTup fun y e => .ask fun h => by subst e; exact .ret (b_addTup (dec h))
  all_goals exact .fail
theorem mul_snd {cl : Cl} (a b : D) : Yl cl (mulM a b) (BinP c .Mult a b) := by
  cases a
  case int i => exact .bind .asI fun j e => .ask fun h => by subst e; exact .ret (b_mulInt (and2 h).1)
  case lst x => exact .bind .asI fun j e => .ask fun h => by subst e; exact .ret (b_mulLst (dec (and3 h).1) (dec (and3 h).2.1) (dec (and3 h).2.2))
  all_goals exact .fail
theorem bin_snd {cl : Cl} (op : Operator) (a b : D) : Yl cl (binM op a b) (BinP c op a b) := by
  cases op
  case Add => exact add_snd a b
  case Mult => exact mul_snd a b
  case Sub => exact .i2 fun i j => .ret (.ints fun A G s k t u x => sub_int (.tok x _ (.int _ _)))
  case Mod => exact .i2 fun i j => .ask fun h => .ret (.ints fun A G s k t u x => mod_int' (by simpa using h) (.tok x _ (.int _ _)))
  case FloorDiv => exact .i2 fun i j => .ask fun h => .ret (b_divInt (and3 h).2.1 (dec (and3 h).2.2))
  case LShift => exact .i2 fun i j => .ask fun h => .ret (b_shlInt (and3 h).1 (dec (and3 h).2.1) (dec (and3 h).2.2))
  case RShift => exact .i2 fun i j => .ask fun h => .ret (.ints fun A G s k t u x => rshift_int (dec h) (.tok x _ (.int _ _)))
  case BitAnd => exact .i2 fun i j => .ret (.ints fun A G s k t u x => and_int (.tok x _ (.int _ _)))
  case BitOr => exact .i2 fun i j => .ret (.ints fun A G s k t u x => or_int (.tok x _ (.int _ _)))
  all_goals exact .fail
end
end Mine

-- G3
namespace Mine

theorem omap {α β : Type} {o : Option α} {f : α → β} {r : β} {P : β → Prop} (h : o.map f = some r) (g : ∀ a, o = some a → P (f a)) : P r := by
  obtain ⟨a, h1, rfl⟩ := Option.map_eq_some_iff.mp h
  exact g a h1
theorem obind {α β : Type} {o : Option α} {f : α → Option β} {r : β} {P : Prop} (h : o.bind f = some r) (g : ∀ a, o = some a → f a = some r → P) : P := by
  obtain ⟨a, h1, h2⟩ := Option.bind_eq_some_iff.mp h
  exact g a h1 h2
theorem all_range_eq {x y : List Str} (h : x.length = y.length) : ((List.range x.length).all fun j => x[j]? == y[j]?) = decide (x = y) := by
  rw [Bool.eq_iff_iff, List.all_eq_true, decide_eq_true_eq]
  constructor
  · intro z
    refine List.ext_getElem? fun i => ?_
    by_cases hi : i < x.length
    · exact eq_of_beq (z i (List.mem_range.mpr hi))
    · rw [List.getElem?_eq_none (Nat.not_lt.mp hi), List.getElem?_eq_none (h ▸ Nat.not_lt.mp hi)]
  · rintro rfl i _
    exact beq_self_eq_true _
section
variable {c : Cx} {A : Around} {G : Heap} {s : Shared} {k : Nat}
theorem IsL.at {vs : List Value} {ds : List D} (h : IsL c G vs ds) {j : Nat} (h1 : j < vs.toArray.size) : ∃ d, ds[j]? = some d ∧ Is c G vs.toArray[j] d := by
  have l : j < ds.length := by rw [← h.1]; exact h1
  exact ⟨ds[j], List.getElem?_eq_getElem l, h.2 j _ _ (List.getElem?_eq_getElem h1) (List.getElem?_eq_getElem l)⟩
theorem IsL.atStr {vs : List Value} {x : List Str} (h : IsL c G vs (x.map D.str)) {j : Nat} (h1 : j < vs.toArray.size) : ∃ y t, x[j]? = some y ∧ vs.toArray[j] = .str y t := by
  obtain ⟨d, h2, h3⟩ := h.at h1
  rw [List.getElem?_map] at h2
  obtain ⟨y, h4, rfl⟩ := Option.map_eq_some_iff.mp h2
  generalize vs.toArray[j] = v at h3
  cases h3
  exact ⟨y, _, h4, rfl⟩
theorem eqAt_strs {vs ws : List Value} {x y : List Str} (h2 : IsL c G vs (x.map D.str)) (h4 : IsL c G ws (y.map D.str)) (j : Nat) (h1 : j < vs.toArray.size) (h3 : j < ws.toArray.size) :
    SeqAt.EqAt A s vs.toArray[j] ws.toArray[j] (x[j]? == y[j]?) := by
  obtain ⟨p, t, e1, e2⟩ := h2.atStr h1
  obtain ⟨q, u, e3, e4⟩ := h4.atStr h3
  rw [e1, e2, e3, e4]
  exact SeqAt.EqAt.str_str _ _ _ _

noncomputable def RcP (c : Cx) (da db : D) (r : Bool) : Prop :=
  ∀ (A : Around) (G : Heap) (s : Shared) (k : Nat) (a b : Value), A.units < cLine → Ok c G s k → Now c G s.heap a da → Now c G s.heap b db → SeqAt.RcAt A s a b r ∧ SeqAt.RcNeAt A s a b (!r)
theorem IsL.size {vs : List Value} {ds : List D} (h : IsL c G vs ds) : vs.toArray.size = ds.length := h.1
theorem IsL.sizeS {vs : List Value} {xs : List Str} (h : IsL c G vs (xs.map D.str)) : vs.toArray.size = xs.length := h.1.trans (List.length_map ..)
theorem r_lstS {x y : List Str} (hl : x.length = y.length) : RcP c (.lst (x.map .str)) (.lst (y.map .str)) (decide (x = y)) := by
  intro A G s k a b hu o ha hb
  obtain ⟨p, vs, n, rfl, h1, h2⟩ := ha.lst o.sub
  obtain ⟨q, ws, n', rfl, h3, h4⟩ := hb.lst o.sub
  have hz : vs.toArray.size = ws.toArray.size := h2.sizeS.trans (hl.trans h4.sizeS.symm)
  rw [← all_range_eq hl, ← h2.sizeS]
  exact ⟨SeqAt.RcAt.lists (isList_of h1) (isList_of h3) hz hu (eqAt_strs h2 h4), SeqAt.RcNeAt.lists (isList_of h1) (isList_of h3) hz hu (eqAt_strs h2 h4)⟩
theorem r_lstN {x y : List D} (hl : x.length ≠ y.length) : RcP c (.lst x) (.lst y) false := by
  intro A G s k a b hu o ha hb
  obtain ⟨p, vs, n, rfl, h1, h2⟩ := ha.lst o.sub
  obtain ⟨q, ws, n', rfl, h3, h4⟩ := hb.lst o.sub
  have hz : (vs.toArray.size != ws.toArray.size) = true := by rw [h2.size, h4.size]; exact bne_iff_ne.mpr hl
  exact ⟨SeqAt.RcAt.lists_lengths (isList_of h1) (isList_of h3) hz hu, SeqAt.RcNeAt.lists_lengths (isList_of h1) (isList_of h3) hz hu⟩
theorem r_tup0 {x y : List D} (hl : x.length = 0 ∨ y.length = 0) : RcP c (.tup x) (.tup y) (x.length == y.length) := by
  intro A G s k a b hu o ha hb
  obtain ⟨p, vs, n, rfl, h1, h2⟩ := ha.tup o.sub
  obtain ⟨q, ws, n', rfl, h3, h4⟩ := hb.tup o.sub
  have none : ∀ j (h1 : j < vs.toArray.size) (h2 : j < ws.toArray.size), SeqAt.EqAt A.in1 s vs.toArray[j] ws.toArray[j] ((fun _ => true) j) := fun j a b => by
    have := h2.size
    have := h4.size
    omega
  have k1 := SeqAt.RcAt.tuples (isTup_of h1) (isTup_of h3) hu none
  have k2 := SeqAt.RcNeAt.tuples (isTup_of h1) (isTup_of h3) hu none
  have hm : min x.length y.length = 0 := by omega
  rw [h2.size, h4.size, hm] at k1 k2
  exact ⟨k1, k2⟩
theorem r_tupS {x y : List Str} : RcP c (.tup (x.map .str)) (.tup (y.map .str)) (decide (x = y)) := by
  intro A G s k a b hu o ha hb
  obtain ⟨p, vs, n, rfl, h1, h2⟩ := ha.tup o.sub
  obtain ⟨q, ws, n', rfl, h3, h4⟩ := hb.tup o.sub
  have e : ((List.range (min vs.toArray.size ws.toArray.size)).all (fun j => x[j]? == y[j]?) && vs.toArray.size == ws.toArray.size) = decide (x = y) := by
    rw [h2.sizeS, h4.sizeS]
    by_cases hl : x.length = y.length
    · rw [← hl, Nat.min_self, all_range_eq hl, beq_self_eq_true, Bool.and_true]
    · rw [beq_false_of_ne hl, Bool.and_false]
      exact (decide_eq_false (p := x = y) fun q => hl (congrArg _ q)).symm
  rw [← e]
  exact ⟨SeqAt.RcAt.tuples (isTup_of h1) (isTup_of h3) hu (eqAt_strs h2 h4), SeqAt.RcNeAt.tuples (isTup_of h1) (isTup_of h3) hu (eqAt_strs h2 h4)⟩
theorem eqStrs_of {a b : List D} {r : Bool} (h : eqStrs a b = some r) : ∃ x y : List Str, a = x.map .str ∧ b = y.map .str ∧ r = decide (x = y) :=
  obind h fun x e h => omap (P := fun r => ∃ x y : List Str, a = x.map .str ∧ b = y.map .str ∧ r = decide (x = y)) h fun y e' => ⟨x, y, allStr_map e, allStr_map e', rfl⟩
theorem eqSeq_snd {x y : List D} {r : Bool} (h : eqSeq x y = some r) : RcP c (.lst x) (.lst y) r := by
  unfold eqSeq at h
  by_cases hl : x.length = y.length
  · rw [if_pos hl] at h
    obtain ⟨p, q, rfl, rfl, rfl⟩ := eqStrs_of h
    exact r_lstS (by rw [List.length_map, List.length_map] at hl; exact hl)
  · rw [if_neg hl] at h
    cases h
    exact r_lstN hl
theorem eqTup_snd {x y : List D} {r : Bool} (h : eqTup x y = some r) : RcP c (.tup x) (.tup y) r := by
  unfold eqTup at h
  by_cases hl : x.length = 0 ∨ y.length = 0
  · rw [if_pos hl] at h
    cases h
    exact r_tup0 hl
  · rw [if_neg hl] at h
    obtain ⟨p, q, rfl, rfl, rfl⟩ := eqStrs_of h
    exact r_tupS
theorem r_int (i j : Int) : RcP c (.int i) (.int j) (i == j) := fun A G s k a b hu o ha hb => by
  obtain ⟨t, rfl⟩ := ha.int
  obtain ⟨u, rfl⟩ := hb.int
  exact ⟨SeqAt.RcAt.int_int _ _ _ _, SeqAt.RcNeAt.int_int _ _ _ _⟩
theorem r_str (i j : Str) : RcP c (.str i) (.str j) (i == j) := fun A G s k a b hu o ha hb => by
  obtain ⟨t, rfl⟩ := ha.str
  obtain ⟨u, rfl⟩ := hb.str
  exact ⟨SeqAt.RcAt.str_str _ _ _ _, SeqAt.RcNeAt.str_str _ _ _ _⟩
theorem r_bool (i j : Bool) : RcP c (.bool i) (.bool j) (i == j) := fun A G s k a b hu o ha hb => by
  cases ha.bool
  cases hb.bool
  exact ⟨SeqAt.RcAt.bool_bool _ _, SeqAt.RcNeAt.bool_bool _ _⟩
theorem eq_snd {a b : D} {r : Bool} (h : eqD a b = some r) : RcP c a b r := by
  cases a
  case int i => exact omap h fun j e => by cases intD_of _ _ e; exact r_int i j
  case str i => exact omap h fun j e => by cases strD_of _ _ e; exact r_str i j
  case bool i => exact omap h fun j e => by cases boolD_of _ _ e; exact r_bool i j
  case lst x => exact obind h fun y e h => by cases lstD_of _ _ e; exact eqSeq_snd h
  case tup x => exact obind h fun y e h => by cases tupD_of _ _ e; exact eqTup_snd h
  all_goals exact nopO <| h

noncomputable def strE (x : Str) : Value → Bool
  | .str z _ => z == x
  | _ => false
noncomputable def boolE (x : Bool) : Value → Bool
  | .bool z => z == x
  | _ => false
theorem any_of {α : Type} {g : α → D} {F : Value → Bool} {f : α → Bool} (hF : ∀ y v, Is c G v (g y) → F v = f y) : ∀ {ys : List α} {vs : List Value}, IsL c G vs (ys.map g) → vs.toArray.any F = ys.any f
  | [], _, h => by cases h.nil_inv; rw [List.any_toArray]; rfl
  | y :: r, _, h => by
    obtain ⟨v, vs', rfl, h1, h2⟩ := h.cons_inv
    have ih := any_of hF h2
    rw [List.any_toArray] at ih ⊢
    rw [List.any_cons, List.any_cons, hF y v h1, ih]
theorem IsL.mem {vs : List Value} {ds : List D} (h : IsL c G vs ds) {v : Value} (hv : v ∈ vs.toArray) : ∃ d ∈ ds, Is c G v d := by
  obtain ⟨i, hi, rfl⟩ := Array.getElem_of_mem hv
  obtain ⟨d, h1, h2⟩ := h.at hi
  exact ⟨d, List.mem_of_getElem? h1, h2⟩
noncomputable def InP (c : Cx) (da db : D) (r : Bool) : Prop :=
  ∀ (A : Around) (G : Heap) (s : Shared) (k : Nat) (a b : Value) (Q E : Value → Shared → Prop), Ok c G s k → Now c G s.heap a da → Now c G s.heap b db →
    ((∀ tk, Q (.bool r) { s with toks := tk }) → wpAny (Mo c) A (compareOp .In a b) Q E s) ∧ ((∀ tk, Q (.bool !r) { s with toks := tk }) → wpAny (Mo c) A (compareOp .NotIn a b) Q E s)
theorem eqAt_in_strs {vs : List Value} {ys : List Str} (h : IsL c G vs (ys.map D.str)) (x : Str) (t : Tok) (y : Value) (hy : y ∈ vs.toArray) : SeqAt.EqAt A s y (.str x t) (strE x y) := by
  obtain ⟨d, h1, h2⟩ := h.mem hy
  obtain ⟨z, _, rfl⟩ := List.mem_map.mp h1
  cases h2
  exact SeqAt.EqAt.str_str _ _ _ _
theorem eqAt_in_bools {vs : List Value} {ys : List Bool} (h : IsL c G vs (ys.map D.bool)) (x : Bool) (y : Value) (hy : y ∈ vs.toArray) : SeqAt.EqAt A s y (.bool x) (boolE x y) := by
  obtain ⟨d, h1, h2⟩ := h.mem hy
  obtain ⟨z, _, rfl⟩ := List.mem_map.mp h1
  cases h2
  exact SeqAt.EqAt.bool_bool _ _
theorem any_strs {vs : List Value} {ys : List Str} (h : IsL c G vs (ys.map D.str)) (x : Str) : vs.toArray.any (strE x) = ys.any (· == x) := any_of (fun y v h => by cases h; rfl) h
theorem any_bools {vs : List Value} {ys : List Bool} (h : IsL c G vs (ys.map D.bool)) (x : Bool) : vs.toArray.any (boolE x) = ys.any (· == x) := any_of (fun y v h => by cases h; rfl) h
theorem i_lst (x : Str) (ys : List Str) : InP c (.str x) (.lst (ys.map .str)) (ys.any (· == x)) := by
  intro A G s k a b Q E o ha hb
  obtain ⟨t, rfl⟩ := ha.str
  obtain ⟨q, ws, n', rfl, h3, h4⟩ := hb.lst o.sub
  rw [← any_strs h4]
  exact ⟨fun hq => SeqAt.in_listAt _ (isList_of h3) (eqAt_in_strs h4 _ _) (hq s.toks), fun hq => SeqAt.notIn_listAt _ (isList_of h3) (eqAt_in_strs h4 _ _) (hq s.toks)⟩
theorem i_tup (x : Str) (ys : List Str) : InP c (.str x) (.tup (ys.map .str)) (ys.any (· == x)) := by
  intro A G s k a b Q E o ha hb
  obtain ⟨t, rfl⟩ := ha.str
  obtain ⟨q, ws, n', rfl, h3, h4⟩ := hb.tup o.sub
  rw [← any_strs h4]
  exact ⟨fun hq => SeqAt.in_tupleAt _ (isTup_of h3) (eqAt_in_strs h4 _ _) (hq s.toks), fun hq => SeqAt.notIn_tupleAt _ (isTup_of h3) (eqAt_in_strs h4 _ _) (hq s.toks)⟩
theorem i_bool (x : Bool) (ys : List Bool) : InP c (.bool x) (.lst (ys.map .bool)) (ys.any (· == x)) := by
  intro A G s k a b Q E o ha hb
  cases ha.bool
  obtain ⟨q, ws, n', rfl, h3, h4⟩ := hb.lst o.sub
  rw [← any_bools h4]
  exact ⟨fun hq => SeqAt.in_listAt _ (isList_of h3) (eqAt_in_bools h4 _) (hq s.toks), fun hq => SeqAt.notIn_listAt _ (isList_of h3) (eqAt_in_bools h4 _) (hq s.toks)⟩
theorem i_dct (x : Str) (l : List (Str × D)) : InP c (.str x) (.dct l) (l.lookup x).isSome := by
  intro A G s k a b Q E o ha hb
  obtain ⟨t, rfl⟩ := ha.str
  obtain ⟨q, kvs, rfl, h0, h1, h2⟩ := hb.dct o.sub
  have e : (valueAt kvs x).isSome = (l.lookup x).isSome := by
    have := h2.at x
    cases q : l.lookup x with
    | none => rw [q] at this; rw [this]; rfl
    | some d => rw [q] at this; obtain ⟨v, h, _⟩ := this; rw [h]; rfl
  rw [← e]
  exact ⟨fun hq => wpAny_in_of (strKind_is _ _ _ _) h0 h1.mapOf (hq _), fun hq => wpAny_notIn_of (strKind_is _ _ _ _) h0 h1.mapOf (hq _)⟩
theorem in_snd {a b : D} {r : Bool} (h : inD a b = some r) : InP c a b r := by
  cases a
  case str x =>
    cases b
    case lst l => exact omap h fun ys e => by cases allStr_map e; exact i_lst x ys
    case tup l => exact omap h fun ys e => by cases allStr_map e; exact i_tup x ys
    case dct l => cases h; exact i_dct x l
    all_goals exact nopO <| h
  case bool x => exact obind h fun l e h => omap h fun ys e' => by cases lstD_of _ _ e; cases allBool_map e'; exact i_bool x ys
  all_goals exact nopO <| h

noncomputable def CmpP (c : Cx) (op : CmpOp) (da db : D) (r : Bool) : Prop :=
  ∀ (A : Around) (G : Heap) (s : Shared) (k : Nat) (a b : Value) (Q E : Value → Shared → Prop), A.units < cLine → Ok c G s k → Now c G s.heap a da → Now c G s.heap b db → (∀ tk, Q (.bool r) { s with toks := tk }) → wpAny (Mo c) A (compareOp op a b) Q E s
theorem ord_snd {op : CmpOp} {a b : D} {r : Bool} {F : Int → Int → Bool} (h : ordD F a b = some r)
    (g : ∀ (A : Around) (s : Shared) (i j : Int) (t u : Tok) (Q E : Value → Shared → Prop), Q (.bool (F i j)) s → wpAny (Mo c) A (compareOp op (.int i t) (.int j u)) Q E s) : CmpP c op a b r :=
  obind h fun i e h => omap h fun j e' => by
    cases intD_of _ _ e
    cases intD_of _ _ e'
    intro A G s k a b Q E hu o ha hb hq
    obtain ⟨t, rfl⟩ := ha.int
    obtain ⟨u, rfl⟩ := hb.int
    exact g A s i j t u Q E (hq s.toks)
theorem cmp_snd {op : CmpOp} {a b : D} {r : Bool} (h : cmpD op a b = some r) : CmpP c op a b r := by
  cases op
  case Eq => exact fun A G s k a b Q E hu o ha hb hq => cmp_ofEq ((eq_snd h A G s k a b hu o ha hb).1 c.prog c.w E Q (hq s.toks))
  case NotEq => exact omap h fun r h => fun A G s k a b Q E hu o ha hb hq => cmp_ofNotEq ((eq_snd h A G s k a b hu o ha hb).2 c.prog c.w E Q (hq s.toks))
  case In => exact fun A G s k a b Q E hu o ha hb hq => (in_snd h A G s k a b Q E o ha hb).1 hq
  case NotIn => exact omap h fun r h => fun A G s k a b Q E hu o ha hb hq => (in_snd h A G s k a b Q E o ha hb).2 hq
  case Lt => exact ord_snd h fun A s i j t u Q E => lt_int
  case Gt => exact ord_snd h fun A s i j t u Q E => gt_int
  case LtE => exact ord_snd h fun A s i j t u Q E => le_int
  case GtE => exact ord_snd h fun A s i j t u Q E => ge_int
  all_goals exact nopO <| h
end
end Mine

-- G4
namespace Mine

theorem seqIndex_nat {i : Int} {n : Nat} (h0 : 0 ≤ i) (h1 : i.toNat < n) : seqIndex? i n = some i.toNat := by
  have e : (if i < 0 then i + (n : Int) else i) = i := if_neg (by omega)
  have : seqIndex? i n = if (decide (0 ≤ (if i < 0 then i + (n : Int) else i)) && decide ((if i < 0 then i + (n : Int) else i) < (n : Int))) = true then some (if i < 0 then i + (n : Int) else i).toNat else none := rfl
  rw [this, e, if_pos (by rw [Bool.and_eq_true, decide_eq_true_eq, decide_eq_true_eq]; omega)]
theorem seqIndex_last {n : Nat} (h0 : 0 < n) : seqIndex? (-1) n = some (n - 1) := by
  have e : (if (-1 : Int) < 0 then -1 + (n : Int) else -1) = ((n - 1 : Nat) : Int) := by rw [if_pos (by decide)]; omega
  have : seqIndex? (-1) n = if (decide (0 ≤ (if (-1 : Int) < 0 then -1 + (n : Int) else -1)) && decide ((if (-1 : Int) < 0 then -1 + (n : Int) else -1) < (n : Int))) = true then some (if (-1 : Int) < 0 then -1 + (n : Int) else -1).toNat else none := rfl
  rw [this, e, if_pos (by rw [Bool.and_eq_true, decide_eq_true_eq, decide_eq_true_eq]; omega)]
  simp

theorem subscripted_ops (e : Expr) (o i : Value) : ∃ ops, subscripted e false o i = operate ops (getItem o i) := by
  unfold subscripted
  split
  · exact ⟨_, rfl⟩
  · contradiction
  · exact ⟨_, rfl⟩

section
variable {c : Cx} {G : Heap} {s : Shared} {k : Nat} {A : Around} {κ : Nat}
/-- what a subscript yields, upon two values -/
noncomputable def SubP (c : Cx) (k : Nat) (da db r : D) : Prop :=
  ∀ (A : Around) (G : Heap) (s : Shared) (a b : Value) (value slice : Expr), Ok c G s k → Now c G s.heap a da → Now c G s.heap b db → wpAny (Mo c) A (subscriptTail value slice a b) (PostE c G s k false r) NoE s
theorem atI_of {l : List D} {i : Int} {r : D} (h : atI l i = some r) : (∃ j, l[j]? = some r ∧ seqIndex? i l.length = some j) ∧ -1 ≤ i ∧ i < 4096 := by
  unfold atI at h
  by_cases h0 : 0 ≤ i
  · rw [if_pos h0] at h
    by_cases h1 : i < 4096
    · rw [if_pos h1] at h
      exact ⟨⟨_, h, seqIndex_nat h0 (List.getElem?_eq_some_iff.mp h).1⟩, by omega, h1⟩
    · rw [if_neg h1] at h; exact nopO <| h
  · rw [if_neg h0] at h
    by_cases h1 : i = -1
    · subst h1
      rw [if_pos rfl, List.getLast?_eq_getElem?] at h
      have := (List.getElem?_eq_some_iff.mp h).1
      exact ⟨⟨_, h, seqIndex_last (by omega)⟩, by decide, by decide⟩
    · rw [if_neg h1] at h; exact nopO <| h
theorem p_tup {l : List D} {i : Int} {r : D} (h : atI l i = some r) : SubP c k (.tup l) (.int i) r := by
  intro A G s a b value slice x ha hb
  obtain ⟨⟨j, h1, h2⟩, h3, h4⟩ := atI_of h
  obtain ⟨p, vs, n, rfl, g1, g2⟩ := ha.tup x.sub
  obtain ⟨u, rfl⟩ := hb.int
  obtain ⟨ops, hs⟩ := subscripted_ops slice (.ref p) (.int i u)
  obtain ⟨v, hv, hr⟩ := g2.get h1
  exact tail_any (T := "tuple") ⟨_, g1, rfl⟩ F.slot_tuple_getitem.lookup (getItem_tuple (isTup_of g1) (by omega) (by omega) (j := j) (by rw [g2.size]; exact h2) (List.getElem?_toArray.trans hv) (.here x hr)) hs
theorem p_lst {l : List D} {i : Int} {r : D} (h : atI l i = some r) : SubP c k (.lst l) (.int i) r := by
  intro A G s a b value slice x ha hb
  obtain ⟨⟨j, h1, h2⟩, h3, h4⟩ := atI_of h
  obtain ⟨p, vs, n, rfl, g1, g2⟩ := ha.lst x.sub
  obtain ⟨u, rfl⟩ := hb.int
  obtain ⟨ops, hs⟩ := subscripted_ops slice (.ref p) (.int i u)
  obtain ⟨v, hv, hr⟩ := g2.get h1
  refine tail_any (isList_of g1).typeIs slot_list_getitem.lookup ?_ hs
  by_cases h0 : 0 ≤ i
  · rw [seqIndex_nat h0 (by
      unfold atI at h
      rw [if_pos h0, if_pos h4] at h
      exact (List.getElem?_eq_some_iff.mp h).1)] at h2
    cases h2
    exact wpAny_getItem_list (isList_of g1) h0 (by omega) (List.getElem?_toArray.trans hv) (.here x hr)
  · have : i = -1 := by omega
    subst this
    have hp : 0 < l.length := Nat.lt_of_le_of_lt (Nat.zero_le _) (List.getElem?_eq_some_iff.mp h1).1
    rw [seqIndex_last hp] at h2
    cases h2
    refine wpAny_getItem_list_neg (isList_of g1) (by decide) (by rw [g2.size]; omega) (by decide) ?_ (.here x hr)
    rw [g2.size, show (-1 + (l.length : Int)).toNat = l.length - 1 by omega]
    exact List.getElem?_toArray.trans hv
theorem p_str {y : Str} {i : Int} {r : D} (h : subS y i = some r) : SubP c k (.str y) (.int i) r := by
  unfold subS at h
  by_cases h0 : 0 ≤ i
  · rw [if_pos h0] at h
    by_cases h1 : i < 4096
    · rw [if_pos h1] at h
      refine omap h fun ch hc => ?_
      intro A G s a b value slice x ha hb
      obtain ⟨t, rfl⟩ := ha.str
      obtain ⟨u, rfl⟩ := hb.int
      obtain ⟨ops, hs⟩ := subscripted_ops slice (.str y t) (.int i u)
      refine tail_any (T := "str") (typeIs_str s y t) F.slot_str_getitem.lookup (P.getItem_str (c := ch) (by simp; omega) ?_ (.tok x _ (.str _ _))) hs
      have : seqIndex? i y.length = some i.toNat := seqIndex_nat h0 (Array.getElem?_eq_some_iff.mp hc).1
      rw [this]
      exact hc
    · rw [if_neg h1] at h; exact nopO <| h
  · rw [if_neg h0] at h; exact nopO <| h
theorem p_dct {l : List (Str × D)} {y : Str} {r : D} (h : l.lookup y = some r) : SubP c k (.dct l) (.str y) r := by
  intro A G s a b value slice x ha hb
  obtain ⟨p, kvs, rfl, h0, h1, h2⟩ := ha.dct x.sub
  obtain ⟨u, rfl⟩ := hb.str
  obtain ⟨ops, hs⟩ := subscripted_ops slice (.ref p) (.str y u)
  have := h2.at y
  rw [h] at this
  obtain ⟨v, hv, hr⟩ := this
  exact tail_any h1.mapOf.typeIs slot_dict_getitem.lookup (wpAny_getItem_of (strKind_is _ _ _ _) h1.mapOf hv (.tok x _ hr)) hs

/-! an object's attributes and methods -/
theorem getL_of {es : List DictEntry} {l : List (Str × D)} (hl : es.length = l.length) (hk : ∀ (i : Nat) e q, es[i]? = some e → l[i]? = some q → e.key.isStr q.1 = true)
    (hv : ∀ (i : Nat) v d, (es.map (·.val))[i]? = some v → (l.map (·.2))[i]? = some d → Is c G v d) (n : Str) : match l.lookup n with
      | some d => ∃ v, getL n es = some (some v) ∧ Is c G v d
      | none => getL n es = some none := by
  have nr : (es.any fun e => e.refKey) = false := by
    rw [List.any_eq_false]
    intro e he
    obtain ⟨i, hi, rfl⟩ := List.getElem_of_mem he
    have := hk i es[i] l[i] (List.getElem?_eq_getElem hi) (List.getElem?_eq_getElem (hl ▸ hi))
    unfold DictEntry.refKey
    unfold Value.isStr at this
    split at this
    · rename_i e1; rw [e1]; simp
    · cases this
  have key : match l.lookup n with
      | some d => ∃ e, es.find? (fun e => e.key.isStr n) = some e ∧ Is c G e.val d
      | none => es.find? (fun e => e.key.isStr n) = none := by
    clear nr
    induction l generalizing es with
    | nil =>
      have : es = [] := List.length_eq_zero_iff.mp hl
      subst this; rfl
    | cons q r ih =>
      cases es with
      | nil => simp at hl
      | cons e es =>
        have k0 := hk 0 e q rfl rfl
        have v0 := hv 0 e.val q.2 rfl rfl
        have ih' := ih (es := es) (by simpa using hl) (fun i e q a b => hk (i + 1) e q (by simpa using a) (by simpa using b)) (fun i v d a b => hv (i + 1) v d (by simpa using a) (by simpa using b))
        obtain ⟨qn, qd⟩ := q
        have hs : ∀ z, e.key.isStr z = (qn == z) := by
          intro z
          unfold Value.isStr at k0 ⊢
          split at k0
          · rename_i x tok e1
            rw [e1]
            have : x = qn := eq_of_beq k0
            subst this
            rfl
          · cases k0
        rw [List.lookup_cons]
        by_cases hn : n = qn
        · subst hn
          simp only [beq_self_eq_true]
          exact ⟨e, by simp [hs], v0⟩
        · have e1 : (n == qn) = false := by simpa using hn
          have e2 : (qn == n) = false := by simpa using Ne.symm hn
          rw [e1]
          simp only [List.find?_cons, hs, e2]
          exact ih'
  unfold getL
  cases q : l.lookup n with
  | some d =>
    rw [q] at key
    obtain ⟨e, h1, h2⟩ := key
    rw [h1]
    exact ⟨e.val, rfl, h2⟩
  | none =>
    rw [q] at key
    simp only [key, nr]
    rfl

theorem Is.handed {v : Value} {d : D} (h : Is c G v d) : handedIn v = true := by
  cases h <;> rfl

structure TbOk (c : Cx) : Prop where
  fn : ∀ x, c.tb.fns.contains x = true → c.mg x = some (.ref (c.at_ x)) ∧ keepIn c.K (.ref (c.at_ x)) = true
  meth : ∀ C m key, c.tb.meth C m = some key → plainGet c.K C m = true ∧ findIn c.K (.ref C) m = some (some (.ref (c.at_ key))) ∧ isFn c.K (.ref (c.at_ key)) = true ∧ keepIn c.K (.ref (c.at_ key)) = true
  attr : ∀ C a, c.tb.attr C a = true → plainGet c.K C a = true ∧ hasDictIn c.K C = true ∧ ∃ t, findIn c.K (.ref C) a = some t ∧ noGet c.K t = true
  glob : ∀ x d, c.tb.glob.lookup x = some d → ∃ v, c.mg x = some v ∧ ∀ G, c.K.In G → Is c G v d
  len : c.mg (⟨#[108, 101, 110]⟩ : Str) = none ∧ c.mb (⟨#[108, 101, 110]⟩ : Str) = some (.builtin "len")
  list : c.mg (⟨#[108, 105, 115, 116]⟩ : Str) = none ∧ c.mb (⟨#[108, 105, 115, 116]⟩ : Str) = some (.type "list")
  tuple : c.mg (⟨#[116, 117, 112, 108, 101]⟩ : Str) = none ∧ c.mb (⟨#[116, 117, 112, 108, 101]⟩ : Str) = some (.type "tuple")
  range : c.mg (⟨#[114, 97, 110, 103, 101]⟩ : Str) = none ∧ c.mb (⟨#[114, 97, 110, 103, 101]⟩ : Str) = some (.type "range")
  zip : c.mg (⟨#[122, 105, 112]⟩ : Str) = none ∧ c.mb (⟨#[122, 105, 112]⟩ : Str) = some (.type "zip")
  cells : c.cells.length = c.tb.cells.length ∧ ∀ (i : Nat) v n, c.cells[i]? = some v → c.tb.cells[i]? = some n → ∃ t, v = .int n t
  mix : c.mix = c.tb.mix
  enum : c.mg (⟨#[101, 110, 117, 109, 101, 114, 97, 116, 101]⟩ : Str) = none ∧ c.mb (⟨#[101, 110, 117, 109, 101, 114, 97, 116, 101]⟩ : Str) = some (.type "enumerate")

/-- an object is read -/
theorem attr_snd {C : Addr} {l : List (Str × D)} {n : Str} {r : D} {v : Value} (T : TbOk c) (x : Ok c G s k) (h : Is c G v (.obj C l)) (ht : c.tb.attr C n = true) (hr : l.lookup n = some r) :
    wpAny (Mo c) A (getAttr v n true) (PostE c G s k false r) NoE s := by
  cases h with
  | obj h1 h2 h3 h4 h5 =>
    obtain ⟨t1, t2, at', t3, t4⟩ := T.attr C n ht
    have := getL_of h3 h4 h5 n
    rw [hr] at this
    obtain ⟨w, g1, g2⟩ := this
    have I : W.InstAt s.heap _ (instObj C _) C (some (dictOf _ _)) := ⟨x.sub _ _ h1, rfl, rfl, x.sub _ _ h2⟩
    exact get_value x.K I (plainGet_of t1).1 (findObj_own t2 t3 t4 (by rw [lookIn_dict]; exact g1)) g2.handed (.tok x _ g2)
theorem meth_snd {C : Addr} {l : List (Str × D)} {n key : Str} {v : Value} {pl : Sem Bool} {Q : Value × List Value → Shared → Prop} {E : Value → Shared → Prop} (T : TbOk c) (x : Ok c G s k) (h : Is c G v (.obj C l)) (ht : c.tb.meth C n = some key) (hr : l.lookup n = none)
    (hQ : Q (.ref (c.at_ key), [v]) s) : wpAny (Mo c) A (getMethod v n pl) Q E s := by
  cases h with
  | obj h1 h2 h3 h4 h5 =>
    obtain ⟨t1, t2, t3, t4⟩ := T.meth C n key ht
    have := getL_of h3 h4 h5 n
    rw [hr] at this
    have I : W.InstAt s.heap _ (instObj C _) C (some (dictOf _ _)) := ⟨x.sub _ _ h1, rfl, rfl, x.sub _ _ h2⟩
    exact method_fn x.K I (plainGet_of t1).1 (plainGet_of t1).2 t2 (beq_iff_eq.mp t3) (by show (lookIn n (dictOf _ _)).map _ = _; rw [lookIn_dict, this]; rfl) hQ

theorem s_feed : (⟨#[99, 101, 108, 108, 115]⟩ : Str) = ("cells" : Str) ∧ (⟨#[97, 116]⟩ : Str) = ("at" : Str) ∧ (⟨#[109, 105, 120]⟩ : Str) = ("mix" : Str) := by decide +kernel
theorem p_feed {y : Str} {r : D} (T : TbOk c) (h : subFeed c.tb k y = some r) : SubP c k .feed (.str y) r := by
  intro A G s a b value slice x ha hb
  obtain ⟨u, rfl⟩ := hb.str
  have haI : Is c G a .feed := ha.elim id fun z => nomatch z
  cases haI
  obtain ⟨ops, hs⟩ := subscripted_ops slice (.ref c.fa) (.str y u)
  obtain ⟨t1, t2, hd⟩ := x.feed
  have fin : ∀ v d, valueAt [(("cells" : Str), Value.ref c.ca), (("at" : Str), .int k t1), (("mix" : Str), .int c.mix t2)] y = some v → Is c G v d → wpAny (Mo c) A (subscriptTail value slice (.ref c.fa) (.str y u)) (PostE c G s k false d) NoE s := fun v d hv hi =>
    tail_any hd.mapOf.typeIs slot_dict_getitem.lookup (wpAny_getItem_of (strKind_is _ _ _ _) hd.mapOf hv (.tok x _ hi)) hs
  unfold subFeed at h
  rw [s_feed.1, s_feed.2.1, s_feed.2.2] at h
  by_cases e : y = ("cells" : Str)
  · rw [if_pos e] at h
    subst e
    cases h
    refine fin _ _ rfl (.lst (n := c.cells.length) x.base.cells (by rw [T.cells.1, List.length_map]) fun i v d e1 e2 => ?_)
    rw [List.getElem?_map] at e2
    obtain ⟨n, e3, rfl⟩ := Option.map_eq_some_iff.mp e2
    obtain ⟨t, rfl⟩ := T.cells.2 i v n e1 e3
    exact .int _ _
  · rw [if_neg e] at h
    by_cases e : y = ("at" : Str)
    · rw [if_pos e] at h
      subst e
      cases h
      exact fin _ _ rfl (.int _ _)
    · rw [if_neg e] at h
      by_cases e : y = ("mix" : Str)
      · rw [if_pos e] at h
        subst e
        cases h
        exact fin _ _ rfl (T.mix ▸ .int _ _)
      · rw [if_neg e] at h; exact nopO <| h
theorem subF_snd {da db r : D} (T : TbOk c) (h : subF c.tb k da db = some r) : SubP c k da db r := by
  cases da
  case lst l => exact obind h fun i e h => by cases intD_of _ _ e; exact p_lst h
  case tup l => exact obind h fun i e h => by cases intD_of _ _ e; exact p_tup h
  case str l => exact obind h fun i e h => by cases intD_of _ _ e; exact p_str h
  case dct l => exact obind h fun i e h => by cases strD_of _ _ e; exact p_dct h
  case feed => exact obind h fun i e h => by cases strD_of _ _ e; exact p_feed T h
  all_goals exact nopO <| h
end
end Mine

-- G5
namespace Mine

inductive PostB (c : Cx) (G : Heap) (s : Shared) (k : Nat) (b : Bool) (r : Bool) (s' : Shared) : Prop
  | mk (e : r = b) (G' : Heap) (h1 : Ok c G' s' k) (h2 : StepE c G G' s s') : PostB c G s k b r s'
inductive PostL (c : Cx) (G : Heap) (s : Shared) (k : Nat) (ds : List D) (vs : List Value) (s' : Shared) : Prop
  | mk (G' : Heap) (h1 : Ok c G' s' k) (h2 : StepE c G G' s s') (h3 : IsL c G' vs ds) : PostL c G s k ds vs s'

noncomputable def GoodCall (c : Cx) (κ : Nat) (f : Addr) (ds : List D) (k : Nat) (d : D) (k' : Nat) : Prop :=
  ∀ A G s vs, AOk κ A → Ok c G s k → IsL c G vs ds → wpAny (Mo c) A (call (.ref f) vs) (PostE c G s k' false d) NoE s
noncomputable def GoodCl (c : Cx) (κ : Nat) (cl : Cl) : Prop := ∀ key ds k d k', cl key ds k = some (d, k') → GoodCall c κ (c.at_ key) ds k d k'

theorem wseq {α : Type} {M : Model} {A : Around} {t : Sem α} {s : Shared} {P Q : α → Shared → Prop} {E : Value → Shared → Prop} (h : wpAny M A t P NoE s) (hq : ∀ v s₁, P v s₁ → Q v s₁) : wpAny M A t Q E s :=
  wpAny_mono h hq fun _ _ e => e.elim
theorem AOk.lt {κ : Nat} {A : Around} (hA : AOk κ A) : A.units < cLine := by have := hA.units; omega

/-- neither spread nor a set -/
noncomputable def Plain : Expr → Bool
  | .Starred _ _ => false
  | .Set _ _ _ => false
  | _ => true
theorem noStarE {e : Expr} (h : Plain e = true) (a p) : e ≠ .Starred a p := by
  rintro rfl
  exact nopB <| h
theorem noSetE {e : Expr} (h : Plain e = true) (a q p) : e ≠ .Set a q p := by
  rintro rfl
  exact nopB <| h
/-- the expression e, k draws made, yields r -/
structure EvP (c : Cx) (κ : Nat) (PE : Env) (vars : Vars) (k : Nat) (e : Expr) (r : Bool × D × Nat) : Prop where
  pl : Plain e = true
  run : ∀ A G s m, AOk κ A → St c PE G s k m vars → wpAny (Mo c) A (eval e PE) (PostE c G s r.2.2 r.1 r.2.1) NoE s
structure TpP (c : Cx) (κ : Nat) (PE : Env) (vars : Vars) (k : Nat) (e : Expr) (r : D × Nat) : Prop where
  pl : Plain e = true
  run : ∀ A G s m, AOk κ A → St c PE G s k m vars → wpAny (Mo c) A (eval e PE) (PostT c G s r.2 r.1) NoE s
noncomputable def TrP (c : Cx) (κ : Nat) (PE : Env) (vars : Vars) (k : Nat) (e : Expr) (r : Bool × Nat) : Prop :=
  ∀ A G s m, AOk κ A → St c PE G s k m vars → wpAny (Mo c) A (isTrue e PE (eval e PE)) (PostB c G s r.2 r.1) NoE s
structure Snd (c : Cx) (κ : Nat) (PE : Env) (vars : Vars) (cl : Cl) (f : EvM) : Prop where
  ev : ∀ k e, Yl cl (f k e) (EvP c κ PE vars k e)
  tr : ∀ k e, Yl cl (evB f k e) (TrP c κ PE vars k e)
/-- expressions one behind the other -/
inductive Evs (c : Cx) (κ : Nat) (PE : Env) (vars : Vars) : Nat → List Expr → List D × Nat → Prop
  | nil (k : Nat) : Evs c κ PE vars k [] ([], k)
  | cons {k : Nat} {e : Expr} {r : List Expr} {x : Bool × D × Nat} {y : List D × Nat} (h : EvP c κ PE vars k e x) (t : Evs c κ PE vars x.2.2 r y) : Evs c κ PE vars k (e :: r) (x.2.1 :: y.1, y.2)

section
variable {c : Cx} {PE : Env} {vars : Vars} {cl : Cl} {f : EvM} {κ : Nat} {A : Around} {G : Heap} {s : Shared} {k : Nat} {m : Str → Option Value} {e : Expr} {E : Value → Shared → Prop}
theorem EvP.use {r : Bool × D × Nat} (h : EvP c κ PE vars k e r) (hA : AOk κ A) (x : St c PE G s k m vars) {Q : Value → Shared → Prop} (g : ∀ v s₁ G₁, Ok c G₁ s₁ r.2.2 → StepE c G G₁ s s₁ → Is c G₁ v r.2.1 → Q v s₁) :
    wpAny (Mo c) A (eval e PE) Q E s := wseq (h.run A G s m hA x) fun v s₁ p => let ⟨G₁, o, t, i⟩ := p.frz.is; g v s₁ G₁ o t i
theorem TpP.use {r : D × Nat} (h : TpP c κ PE vars k e r) (hA : AOk κ A) (x : St c PE G s k m vars) {Q : Value → Shared → Prop} (g : ∀ v s₁ G₁, Ok c G₁ s₁ r.2 → StepE c G G₁ s s₁ → Now c G₁ s₁.heap v r.1 → Q v s₁) :
    wpAny (Mo c) A (eval e PE) Q E s := wseq (h.run A G s m hA x) fun v s₁ p => let ⟨G₁, o, t, i⟩ := p; g v s₁ G₁ o t i
theorem TrP.use {r : Bool × Nat} (h : TrP c κ PE vars k e r) (hA : AOk κ A) (x : St c PE G s k m vars) {Q : Bool → Shared → Prop} (g : ∀ s₁ G₁, Ok c G₁ s₁ r.2 → StepE c G G₁ s s₁ → Q r.1 s₁) :
    wpAny (Mo c) A (isTrue e PE (eval e PE)) Q E s := wseq (h A G s m hA x) fun v s₁ p => let ⟨q, G₁, o, t⟩ := p; q ▸ g s₁ G₁ o t
theorem EvP.tp {r : Bool × D × Nat} (h : EvP c κ PE vars k e r) : TpP c κ PE vars k e r.2 := ⟨h.pl, fun A G s m hA x => wseq (h.run A G s m hA x) fun _ _ p => p.now⟩
theorem Snd.t (S : Snd c κ PE vars cl f) (k : Nat) (e : Expr) : Yl cl (evT f PE.scope.names vars k e) (TpP c κ PE vars k e) := by
  have gen : Yl cl ((f k e).bind fun q => .ret q.2) (TpP c κ PE vars k e) := .bind (S.ev k e) fun q h => .ret h.tp
  cases e <;> try exact gen
  rename_i n pos
  exact .gd fun hl => .bind (.lift fun q h => h) fun q h => .ret ⟨rfl, fun A G s m hA x => by
    obtain ⟨v, hv, hr⟩ := x.val _ _ _ h
    exact x.fr.load hl hv ⟨G, x.ok, .refl _ _, hr.now⟩⟩

theorem starEach_cons {e : Expr} {r : List Expr} {env : Env} (h : ∀ a p, e ≠ .Starred a p) : starEach (e :: r) env = (false, eval e env) :: starEach r env := by
  cases e <;> first | rfl | exact absurd rfl (h _ _)
theorem Snd.l (S : Snd c κ PE vars cl f) : ∀ es k, Yl cl (evL f k es) (Evs c κ PE vars k es)
  | [], k => .ret (.nil k)
  | e :: r, k => .bind (S.ev k e) fun x h => .bind (Snd.l S r x.2.2) fun y t => .ret (.cons h t)
theorem Evs.use {es : List Expr} {r : List D × Nat} (h : Evs c κ PE vars k es r) (pos : Pos) (hA : AOk κ A) (x : St c PE G s k m vars) {Q : List Value → Shared → Prop}
    (g : ∀ vs s₁ G₁, Ok c G₁ s₁ r.2 → StepE c G G₁ s s₁ → IsL c G₁ vs r.1 → Q vs s₁) : wpAny (Mo c) A (spliced (backTo pos (starEach es PE))) Q E s := by
  induction h generalizing G s Q with
  | nil k => exact wpAny_items_nil (g _ _ _ x.ok (.refl _ _) .nil)
  | cons h t ih =>
    exact wpAny_items_cons (h.use hA x fun v s₁ G₁ o₁ t₁ i₁ => ih (x.step t₁ o₁) fun vs s₂ G₂ o₂ t₂ i₂ => g _ _ _ o₂ (t₁.trans t₂) (.cons (i₁.mono t₂.le) i₂)) (starEach_cons (noStarE h.pl))
theorem Evs.noStar {es : List Expr} {r : List D × Nat} (h : Evs c κ PE vars k es r) (pos : Pos) : ((backTo pos (starEach es PE)).any (·.1)) = false := by
  induction h with
  | nil k => rfl
  | cons h t ih =>
    rw [starEach_cons (noStarE h.pl)]
    exact ih
theorem Evs.len {es : List Expr} {r : List D × Nat} (h : Evs c κ PE vars k es r) : r.1.length = es.length := by
  induction h with
  | nil k => rfl
  | cons h t ih => exact congrArg (· + 1) ih
/-- a call of a def (or a class) of the text's -/
theorem Evs.callQ {es : List Expr} {r : List D × Nat} (h : Evs c κ PE vars k es r) (pos : Pos) {fa : Addr} {first : List Value} (hA : AOk κ A) (x : St c PE G s k m vars) (hk : keepIn c.K (.ref fa) = true) {Q : Value → Shared → Prop}
    (g : ∀ vs s₁ G₁, Ok c G₁ s₁ r.2 → StepE c G G₁ s s₁ → IsL c G₁ vs r.1 → wpAny (Mo c) A (call (.ref fa) (first ++ vs)) Q NoE s₁) : wpAny (Mo c) A (callWith pos (.ref fa) first (backTo pos (starEach es PE)) []) Q NoE s := by
  cases h with
  | nil => exact callWith_K0 x.ok.K hk (g _ _ _ x.ok (.refl _ _) .nil)
  | cons h t => exact callWith_K x.ok.K hk ((Evs.cons h t).use pos hA x fun vs s₁ G₁ o₁ t₁ i₁ => ⟨o₁.K, g vs s₁ G₁ o₁ t₁ i₁⟩) (starEach_cons (noStarE h.pl)) (t.noStar pos)
theorem Evs.callWith {es : List Expr} {r : List D × Nat} (h : Evs c κ PE vars k es r) (pos : Pos) {fa : Addr} {first : List Value} {fds : List D} {d : D} {k₂ : Nat} (hA : AOk κ A) (x : St c PE G s k m vars)
    (hk : keepIn c.K (.ref fa) = true) (hf : IsL c G first fds) (g : GoodCall c κ fa (fds ++ r.1) r.2 d k₂) :
    wpAny (Mo c) A (callWith pos (.ref fa) first (backTo pos (starEach es PE)) []) (PostE c G s k₂ false d) NoE s :=
  h.callQ pos hA x hk fun vs s₁ G₁ o₁ t₁ i₁ => wseq (g A G₁ s₁ _ hA o₁ ((hf.mono t₁.le).append i₁)) fun v s₂ q => q.trans t₁

/-- any test that is no Not, And, Or, IfExp or Compare -/
theorem EvP.truth {r : Bool × D × Nat} {b : Bool} (h : EvP c κ PE vars k e r) (hb : r.2.1 = .bool b)
    (he : isTrue e PE (eval e PE) = (do let v ← eval e PE; standAt e.pos; holding [v] (truthy v))) : TrP c κ PE vars k e (b, r.2.2) := fun A G s m hA x =>
  wpAny_isTrue_value (h.use hA x fun v s₁ G₁ o₁ t₁ i₁ => by
    rw [hb] at i₁
    cases i₁
    exact wpAny_truthy_bool ⟨rfl, G₁, o₁, t₁⟩) he

noncomputable def BsP (c : Cx) (κ : Nat) (PE : Env) (vars : Vars) (op : BoolOp) (k : Nat) (es : List Expr) (r : Bool × Nat) : Prop :=
  ∀ A G s m, AOk κ A → St c PE G s k m vars → wpAny (Mo c) A (allTrue op es PE) (PostB c G s r.2 r.1) NoE s
theorem PostB.trans {G₁ : Heap} {s₁ s₂ : Shared} {k' : Nat} {b r : Bool} (t : StepE c G G₁ s s₁) (p : PostB c G₁ s₁ k' b r s₂) : PostB c G s k' b r s₂ := let ⟨e, G', o, t'⟩ := p; ⟨e, G', o, t.trans t'⟩
theorem bs_one {op : BoolOp} {x : Bool × Nat} (h : TrP c κ PE vars k e x) : BsP c κ PE vars op k [e] x := by
  obtain ⟨b, k'⟩ := x
  intro A G s m hA st
  cases op
  · exact wpAny_allTrue_And_cons (h.use hA st fun s₁ G₁ o₁ t₁ => by
      cases b
      · exact ⟨rfl, G₁, o₁, t₁⟩
      · exact wpAny_allTrue_And_nil ⟨rfl, G₁, o₁, t₁⟩)
  · exact wpAny_allTrue_Or_cons (h.use hA st fun s₁ G₁ o₁ t₁ => by
      cases b
      · exact wpAny_allTrue_Or_nil ⟨rfl, G₁, o₁, t₁⟩
      · exact ⟨rfl, G₁, o₁, t₁⟩)
theorem bs_on {op : BoolOp} {k' : Nat} {b : Bool} {r : List Expr} {y : Bool × Nat} (h : TrP c κ PE vars k e (b, k')) (hb : (match op with | .And => true | .Or => false) = b) (t : BsP c κ PE vars op k' r y) : BsP c κ PE vars op k (e :: r) y := by
  intro A G s m hA st
  cases op <;> cases hb
  · exact wpAny_allTrue_And_cons (h.use hA st fun s₁ G₁ o₁ t₁ => wseq (t A G₁ s₁ m hA (st.step t₁ o₁)) fun _ _ p => p.trans t₁)
  · exact wpAny_allTrue_Or_cons (h.use hA st fun s₁ G₁ o₁ t₁ => wseq (t A G₁ s₁ m hA (st.step t₁ o₁)) fun _ _ p => p.trans t₁)
theorem bs_off {op : BoolOp} {k' : Nat} {b : Bool} {r : List Expr} (h : TrP c κ PE vars k e (b, k')) (hb : (match op with | .And => false | .Or => true) = b) : BsP c κ PE vars op k (e :: r) (b, k') := by
  intro A G s m hA st
  cases op <;> cases hb
  · exact wpAny_allTrue_And_cons (h.use hA st fun s₁ G₁ o₁ t₁ => ⟨rfl, G₁, o₁, t₁⟩)
  · exact wpAny_allTrue_Or_cons (h.use hA st fun s₁ G₁ o₁ t₁ => ⟨rfl, G₁, o₁, t₁⟩)
theorem Snd.bs (S : Snd c κ PE vars cl f) {op : BoolOp} : ∀ es k, Yl cl (evBs f op k es) (BsP c κ PE vars op k es)
  | [], k => .fail
  | [e], k => .bind (S.tr k e) fun x h => .ret (bs_one h)
  | e :: e' :: r, k => .bind (S.tr k e) fun x h => by
    obtain ⟨b, k'⟩ := x
    cases op
    · exact .test (fun q => by cases q; exact (Snd.bs S (e' :: r) k').mono fun y t => bs_on h rfl t) fun q => by cases q; exact .ret (bs_off h rfl)
    · exact .test (fun q => by cases q; exact .ret (bs_off h rfl)) fun q => by cases q; exact (Snd.bs S (e' :: r) k').mono fun y t => bs_on h rfl t

/-- an expression that yields a truth -/
noncomputable def BvP (c : Cx) (κ : Nat) (PE : Env) (vars : Vars) (k : Nat) (e : Expr) (r : Bool × Nat) : Prop := EvP c κ PE vars k e (false, .bool r.1, r.2)
theorem Snd.b (S : Snd c κ PE vars cl f) (k : Nat) (e : Expr) : Yl cl (evB f k e) (BvP c κ PE vars k e) :=
  .bind (S.ev k e) fun x h => .bind .asB fun b q => .ret ⟨h.pl, fun A G s m hA st => wseq (h.run A G s m hA st) fun v s₁ p => q ▸ p.frz⟩
theorem BvP.use {r : Bool × Nat} (h : BvP c κ PE vars k e r) (hA : AOk κ A) (x : St c PE G s k m vars) {Q : Value → Shared → Prop} (g : ∀ s₁ G₁, Ok c G₁ s₁ r.2 → StepE c G G₁ s s₁ → Q (.bool r.1) s₁) :
    wpAny (Mo c) A (eval e PE) Q E s := EvP.use h hA x fun v s₁ G₁ o t i => by
  cases i
  exact g s₁ G₁ o t
theorem bv_on {op : BoolOp} {k' : Nat} {b : Bool} {e' : Expr} {r : List Expr} {y : Bool × Nat} {pos : Pos} (h : BvP c κ PE vars k e (b, k')) (hb : (match op with | .And => true | .Or => false) = b) (t : BvP c κ PE vars k' (.BoolOp op (e' :: r) pos) y) : BvP c κ PE vars k (.BoolOp op (e :: e' :: r) pos) y := by
  refine ⟨rfl, fun A G s m hA st => ?_⟩
  cases op <;> cases hb
  · exact BoolOp_and (h.use hA st fun s₁ G₁ o₁ t₁ => wpAny_truthy_bool (wseq (t.run A G₁ s₁ m hA (st.step t₁ o₁)) fun _ _ p => p.trans t₁))
  · exact BoolOp_or (h.use hA st fun s₁ G₁ o₁ t₁ => wpAny_truthy_bool (wseq (t.run A G₁ s₁ m hA (st.step t₁ o₁)) fun _ _ p => p.trans t₁))
theorem bv_off {op : BoolOp} {k' : Nat} {b : Bool} {e' : Expr} {r : List Expr} {pos : Pos} (h : BvP c κ PE vars k e (b, k')) (hb : (match op with | .And => false | .Or => true) = b) : BvP c κ PE vars k (.BoolOp op (e :: e' :: r) pos) (b, k') := by
  refine ⟨rfl, fun A G s m hA st => ?_⟩
  cases op <;> cases hb
  · exact BoolOp_and (h.use hA st fun s₁ G₁ o₁ t₁ => wpAny_truthy_bool (.mk' o₁ t₁ (.bool _)))
  · exact BoolOp_or (h.use hA st fun s₁ G₁ o₁ t₁ => wpAny_truthy_bool (.mk' o₁ t₁ (.bool _)))
theorem Snd.bv (S : Snd c κ PE vars cl f) {op : BoolOp} (pos : Pos) : ∀ es k, Yl cl (evBs f op k es) (BvP c κ PE vars k (.BoolOp op es pos))
  | [], k => .fail
  | [e], k => .bind (S.b k e) fun x h => .ret ⟨rfl, fun A G s m hA st => BoolOp_one (h.run A G s m hA st)⟩
  | e :: e' :: r, k => .bind (S.b k e) fun x h => by
    obtain ⟨b, k'⟩ := x
    cases op
    · exact .test (fun q => by cases q; exact (Snd.bv S pos (e' :: r) k').mono fun y t => bv_on h rfl t) fun q => by cases q; exact .ret (bv_off h rfl)
    · exact .test (fun q => by cases q; exact .ret (bv_off h rfl)) fun q => by cases q; exact (Snd.bv S pos (e' :: r) k').mono fun y t => bv_on h rfl t
end

section
variable {c : Cx} {PE : Env} {κ : Nat} {A : Around} {G G' : Heap} {s s₁ : Shared} {k k' : Nat} {m : Str → Option Value}

/-- a change at places that the trees do not know -/
theorem Ok.chg (x : Ok c G s k) {h' : Heap} {tk : Nat} (bad : Addr → Prop) (hk : ∀ b o, ¬ bad b → s.heap.get? b = some o → h'.get? b = some o) (hb : ∀ b, bad b → G.get? b = none ∧ b ≠ c.fa) : Ok c G { s with heap := h', toks := tk } k :=
  ⟨fun a o e => hk a o (fun q => by rw [(hb a q).1] at e; cases e) (x.sub a o e), x.base, x.nofa, x.feed.at fun o e => hk _ o (fun q => (hb _ q).2 rfl) e⟩
theorem StepE.chg (t : StepE c G G' s s₁) {h' : Heap} {tk : Nat} (bad : Addr → Prop) (hk : ∀ b o, ¬ bad b → s₁.heap.get? b = some o → h'.get? b = some o) (hb : ∀ b, bad b → s.heap.get? b = none) (hf : ¬ bad c.fa) : StepE c G G' s { s₁ with heap := h', toks := tk } := by
  refine ⟨t.le, t.new, fun a o h1 h2 e => ?_, fun a e => ?_, t.gens, t.drawn, t.os⟩
  · exact hk a o (fun q => by rw [hb a q] at e; cases e) (t.keep a o h1 h2 e)
  · have e1 := t.live a e
    obtain ⟨o, ho⟩ := Option.ne_none_iff_exists'.mp e1
    rw [hk a o (fun q => e (hb a q)) ho]
    simp
theorem StepE.none (t : StepE c G G' s s₁) {b : Addr} (h1 : s.heap.get? b ≠ Option.none) (h2 : G.get? b = Option.none) : G'.get? b = Option.none := by
  cases q : G'.get? b with
  | none => rfl
  | some o =>
    rcases t.new b o q with e | e | e
    · rw [h2] at e; cases e
    · exact absurd e h1
    · exact e.elim

/-- an iterator over the trees ds, made anew -/
noncomputable def IterOf (c : Cx) (A : Around) (G : Heap) (s : Shared) (xv : Value) (ds : List D) : Prop :=
  ∀ (Q : Value → Shared → Prop) (E : Value → Shared → Prop), (∀ (I : Addr) (fp : List Addr) (P : Nat → Value → Prop) (W : Nat → Heap → Prop) (h₂ : Heap) (tk : Nat),
    Walks c.prog c.w A I fp [I] ds.length P W → (∀ i h, W i h → h.get? I ≠ none) → s.heap.get? I = none → (∀ b o, s.heap.get? b = some o → h₂.get? b = some o) → W 0 h₂ →
    (∀ b ∈ fp, b = I ∨ (s.heap.get? b ≠ none ∧ b ≠ c.fa ∧ xv = .ref b)) → (∀ i v, i < ds.length → P i v → ∃ d, ds[i]? = some d ∧ Is c G v d) → Q (.ref I) { s with heap := h₂, toks := tk }) → wpAny (Mo c) A (pyIter xv) Q E s

theorem fresh_ne {h : Heap} {a : Addr} {o : Obj} (e : h.get? a = some o) : a ≠ h.objs.size := Nat.ne_of_lt (Heap.lt_size e)
theorem Own.nofa {h : Heap} {a : Addr} {d : D} (x : Own c G h (.ref a) d) : a ≠ c.fa := by cases x <;> assumption
theorem Is.nofa {a : Addr} {l : List D} (x : Ok c G s k) (h : Is c G (.ref a) (.lst l) ∨ Is c G (.ref a) (.tup l)) : a ≠ c.fa := by
  rintro rfl
  rcases h with h | h
  · cases h with
    | lst h1 _ _ => rw [x.nofa] at h1; cases h1
  · cases h with
    | tup h1 _ _ => rw [x.nofa] at h1; cases h1
theorem IsL.walk {vs : List Value} {ds : List D} (hl : IsL c G vs ds) : ∀ i v, i < ds.length → vs.toArray[i]? = some v → ∃ d, ds[i]? = some d ∧ Is c G v d := fun i v hi e =>
  ⟨ds[i], List.getElem?_eq_getElem hi, hl.2 i v _ (List.getElem?_toArray.symm.trans e) (List.getElem?_eq_getElem hi)⟩
theorem fp2 {a I : Addr} {o : Obj} {fa : Addr} (h1 : s.heap.get? a = some o) (hf : a ≠ fa) : ∀ b ∈ [a, I], b = I ∨ (s.heap.get? b ≠ none ∧ b ≠ fa ∧ Value.ref a = .ref b) := fun b hb => by
  rcases List.mem_cons.mp hb with rfl | hb
  · exact .inr ⟨fun q => (nopO <| h1.symm.trans q), hf, rfl⟩
  · exact .inl (List.mem_singleton.mp hb)
theorem fp2' {a I : Addr} {o : Obj} {fa : Addr} (h1 : s.heap.get? a = some o) (hf : a ≠ fa) : ∀ b ∈ [I, a], b = I ∨ (s.heap.get? b ≠ none ∧ b ≠ fa ∧ Value.ref a = .ref b) := fun b hb => by
  rcases List.mem_cons.mp hb with rfl | hb
  · exact .inl rfl
  · cases List.mem_singleton.mp hb
    exact .inr ⟨fun q => (nopO <| h1.symm.trans q), hf, rfl⟩
theorem iter_tup {v : Value} {ds : List D} (x : Ok c G s k) (hn : Now c G s.heap v (.tup ds)) (hh : A.handled = none) : IterOf c A G s v ds := by
  intro Q E hq
  have hi := hn.tupIs
  obtain ⟨a, vs, n, rfl, h1, h2⟩ := hn.tup x.sub
  have W := Walks.tuple (prog := c.prog) (w := c.w) hh s.heap.objs.size a (fresh_ne h1) vs.toArray
  rw [h2.size] at W
  have old : ∀ o b o', s.heap.get? b = some o' → (s.heap.push o).get? b = some o' := fun o b o' e => Heap.get?_push_of_some _ e
  refine wpAny_pyIter_tuple (isTup_of h1) (hq _ _ _ _ _ _ W ?_ (fresh_size _) (old _) ⟨⟨_, Heap.get?_push_size _ rfl, rfl, rfl⟩, _, old _ _ _ h1, rfl, n, rfl⟩ (by first | exact fp2 h1 (Is.nofa x (.inr hi)) | exact fp2' h1 (Is.nofa x (.inr hi))) h2.walk)
  rintro i h ⟨⟨o, e, _⟩, _⟩ q
  exact nopO <| e.symm.trans q
theorem iter_lst {v : Value} {ds : List D} (x : Ok c G s k) (hn : Now c G s.heap v (.lst ds)) (hh : A.handled = none) : IterOf c A G s v ds := by
  intro Q E hq
  have hf : ∀ a, v = .ref a → a ≠ c.fa := fun a e => by
    subst e
    rcases hn with hn | hn
    · exact Is.nofa x (.inl hn)
    · exact hn.nofa
  obtain ⟨a, vs, n, rfl, h1, h2⟩ := hn.lst x.sub
  have W := Walks.list (prog := c.prog) (w := c.w) hh s.heap.objs.size a (fresh_ne h1) vs.toArray
  rw [h2.size] at W
  have old : ∀ o b o', s.heap.get? b = some o' → (s.heap.push o).get? b = some o' := fun o b o' e => Heap.get?_push_of_some _ e
  refine wpAny_pyIter_list (isList_of h1) (hq _ _ _ _ _ _ W ?_ (fresh_size _) (old _) ⟨⟨_, Heap.get?_push_size _ rfl, rfl, rfl⟩, _, old _ _ _ h1, rfl, n, rfl⟩ (by first | exact fp2 h1 (hf _ rfl) | exact fp2' h1 (hf _ rfl)) h2.walk)
  rintro i h ⟨⟨o, e, _⟩, _⟩ q
  exact nopO <| e.symm.trans q
theorem iter_seq {v : Value} {d : D} {ds : List D} (x : Ok c G s k) (hn : Now c G s.heap v d) (h : d = .lst ds ∨ d = .tup ds) (hh : A.handled = none) : IterOf c A G s v ds := by
  rcases h with rfl | rfl
  · exact iter_lst x hn hh
  · exact iter_tup x hn hh
theorem small_range {n : Nat} (hn : n ≤ 4096) : Builtin.Range.small 0 (n : Int) 1 = true := by
  unfold Builtin.Range.small
  rw [rangeSize_nat]
  simp [Builtin.Range.rangeFitsLong]
  omega
theorem iter_range {r : Addr} {n : Nat} {t u v : Tok} (h : IsRange s.heap r 0 (n : Int) 1 t u v) (hn : n ≤ 4096) (hh : A.handled = none) : IterOf c A G s (.ref r) (rangeD n) := by
  intro Q E hq
  have old : ∀ o b o', s.heap.get? b = some o' → (s.heap.push o).get? b = some o' := fun o b o' e => Heap.get?_push_of_some _ e
  have hl : (rangeD n).length = n := by simp [rangeD]
  refine wpAny_pyIter_range h (small_range hn) (hq _ _ _ _ _ _ (by have := LCg.range_walks (prog := c.prog) (w := c.w) (I := s.heap.objs.size) hh 0 n; rw [hl]; exact this) ?_ (fresh_size _) (old _) ?_ ?_ ?_)
  · intro i h e q
    have e' : h.get? _ = some _ := e
    rw [e'] at q; cases q
  · show (s.heap.push _).get? _ = _
    rw [Heap.get?_push_size _ rfl]
    simp [rangeSize_nat]
  · intro b hb
    simp at hb
    exact .inl hb
  · rintro i v hi ⟨t, rfl⟩
    rw [hl] at hi
    refine ⟨.int (Int.ofNat i), by simp [rangeD, List.getElem?_map, hi], ?_⟩
    have : (0 : Int) + (i : Int) = Int.ofNat i := by simp
    rw [this]
    exact .int _ _
theorem iter_str {y : Str} {t : Tok} (hh : A.handled = none) : IterOf c A G s (.str y t) (y.cps.toList.map fun ch => .str ⟨#[ch]⟩) := by
  intro Q E hq
  have old : ∀ o b o', s.heap.get? b = some o' → (s.heap.push o).get? b = some o' := fun o b o' e => Heap.get?_push_of_some _ e
  have hl : (y.cps.toList.map fun ch => D.str ⟨#[ch]⟩).length = y.cps.size := by simp
  have el : ∀ i v, i < (y.cps.toList.map fun ch => D.str ⟨#[ch]⟩).length → SignAt y i v → ∃ d, (y.cps.toList.map fun ch => D.str ⟨#[ch]⟩)[i]? = some d ∧ Is c G v d := by
    rintro i v hi ⟨ch, u, e, rfl⟩
    exact ⟨.str ⟨#[ch]⟩, by simp [List.getElem?_map, e], .str _ _⟩
  cases ha : y.cps.all (· < 128)
  · have W := Walks.strWide (prog := c.prog) (w := c.w) hh s.heap.objs.size y t
    rw [← hl] at W
    refine wpAny_pyIter_wide ha (hq _ _ _ _ _ _ W ?_ (fresh_size _) (old _) ⟨_, Heap.get?_push_size _ rfl, rfl, rfl⟩ ?_ el)
    · rintro i h ⟨o, e, _⟩ q
      rw [e] at q; cases q
    · intro b hb
      simp at hb
      exact .inl hb
  · have W := Walks.strAscii (prog := c.prog) (w := c.w) hh s.heap.objs.size y t
    rw [← hl] at W
    refine wpAny_pyIter_ascii ha (hq _ _ _ _ _ _ W ?_ (fresh_size _) (old _) ⟨_, Heap.get?_push_size _ rfl, rfl, rfl⟩ ?_ el)
    · rintro i h ⟨o, e, _⟩ q
      rw [e] at q; cases q
    · intro b hb
      simp at hb
      exact .inl hb
end
end Mine

-- G6
namespace Mine

/-! the names of a comprehension's block -/
theorem relab_eq {scope : Scope} {PE : Env} (hk : PE.scope.kind = .function) : (relabel scope PE).names = relab PE.scope.names scope.names := by
  unfold relabel relab
  refine List.map_congr_left fun p _ => ?_
  obtain ⟨n, k⟩ := p
  dsimp only
  have e : PE.kindOf n = List.lookup n PE.scope.names := rfl
  rw [e, hk]
  by_cases h : k = .free ∧ List.lookup n PE.scope.names = some .cell
  · rw [if_pos h, if_pos (by rw [h.1, h.2]; rfl)]
  · rw [if_neg h, if_neg (fun q => h (by simpa using q))]
theorem relab_lookup {sc : Kinds} : ∀ {names : Kinds} {y : Str}, (relab sc names).lookup y = (names.lookup y).map fun k => if k = .free ∧ sc.lookup y = some .cell then .cell else k
  | [], y => rfl
  | (n, k) :: r, y => by
    have ih := @relab_lookup sc r y
    show List.lookup y ((if k = .free ∧ sc.lookup n = some .cell then (n, NameKind.cell) else (n, k)) :: relab sc r) = _
    by_cases h : y = n
    · subst h
      by_cases q : k = .free ∧ sc.lookup y = some .cell
      · rw [if_pos q]; simp [q]
      · rw [if_neg q]; simp [q]
    · have e : (y == n) = false := by simpa using h
      by_cases q : k = .free ∧ sc.lookup n = some .cell
      · rw [if_pos q]; simp only [List.lookup_cons, e]; exact ih
      · rw [if_neg q]; simp only [List.lookup_cons, e]; exact ih

structure SOk (sc : Kinds) (x : Str) (scope : Scope) : Prop where
  kind : scope.kind = .function
  loc : isLoc scope.names x = true
  nodup : (scope.names.map (·.1)).Nodup
  lo : ∀ n, (n, NameKind.local) ∈ scope.names → n = x ∨ n = (".0" : Str)
  ce : ∀ n, (n, NameKind.cell) ∈ scope.names → n = x
  fr : ∀ n, (n, NameKind.free) ∈ scope.names → sc.lookup n = some .cell ∧ n ≠ x
theorem scopeOk_iff {sc : Kinds} {x : Str} {scope : Scope} (h : scopeOk sc x scope = true) : SOk sc x scope := by
  unfold scopeOk at h
  rw [s_dot0] at h
  simp only [Bool.and_eq_true, decide_eq_true_eq] at h
  obtain ⟨⟨⟨⟨⟨h1, h2⟩, h3⟩, h4⟩, h5⟩, h6⟩ := h
  have al := List.all_eq_true.mp h6
  refine ⟨eq_of_beq h1, h4, h5, fun n hn => ?_, fun n hn => ?_, fun n hn => ?_⟩
  · have := al _ hn
    dsimp only at this
    rw [Bool.or_eq_true] at this
    exact this.imp (fun e => eq_of_beq e) fun e => eq_of_beq e
  · exact eq_of_beq (al _ hn)
  · have := al _ hn
    dsimp only at this
    simp only [Bool.and_eq_true, Bool.not_eq_true', beq_eq_false_iff_ne] at this
    exact ⟨eq_of_beq this.1.1, this.1.2⟩
theorem nodup_lookup : ∀ {l : Kinds}, (l.map (·.1)).Nodup → ∀ {n : Str} {k : NameKind}, (n, k) ∈ l → l.lookup n = some k
  | (n', k') :: r, h, n, k, hm => by
    simp only [List.map_cons, List.nodup_cons] at h
    rcases List.mem_cons.mp hm with e | hm
    · cases e; simp
    · have : n ≠ n' := fun e => h.1 (e ▸ List.mem_map_of_mem (f := (·.1)) hm)
      rw [List.lookup_cons, show (n == n') = false by simpa using this]
      exact nodup_lookup h.2 hm

noncomputable def closL (cells : List (Str × Addr)) : Kinds → List (Str × Addr) → List (Str × Addr)
  | [], acc => acc
  | (n, k) :: r, acc => if k = .free then closL cells r ((n, (cells.lookup n).getD 0) :: acc) else closL cells r acc
theorem closL_forIn {PE : Env} : ∀ (names : Kinds) (acc : List (Str × Addr)), (∀ n, (n, NameKind.free) ∈ names → (PE.cells.lookup n).isSome) →
    ∀ (f : Str × NameKind → List (Str × Addr) → Sem (ForInStep (List (Str × Addr)))), (∀ n k cs, f (n, k) cs = if k == .free then (do let a ← cellOf PE n; pure (.yield ((n, a) :: cs))) else pure (.yield cs)) →
    forIn names acc f = (pure (closL PE.cells names acc) : Sem _)
  | [], acc, _, f, hf => by rw [List.forIn_nil]; rfl
  | (n, k) :: r, acc, h, f, hf => by
    rw [List.forIn_cons, hf]
    have ih := fun acc => closL_forIn (PE := PE) r acc (fun n hn => h n (List.mem_cons_of_mem _ hn)) f hf
    by_cases hk : k = .free
    · subst hk
      obtain ⟨a, ha⟩ := Option.isSome_iff_exists.mp (h n List.mem_cons_self)
      have hc : cellOf PE n = pure a := by unfold cellOf; rw [ha]
      simp only [beq_self_eq_true, if_true, hc, pure_bind]
      rw [ih]
      simp [closL, ha]
    · have : (k == NameKind.free) = false := by simpa using hk
      rw [if_neg (by rw [this]; decide), pure_bind]
      dsimp only
      rw [ih]
      simp [closL, hk]
theorem closureFor_is {scope : Scope} {PE : Env} (h : ∀ n, (n, NameKind.free) ∈ scope.names → (PE.cells.lookup n).isSome) : closureFor scope PE = pure (closL PE.cells scope.names []) := by
  unfold closureFor
  have := closL_forIn (PE := PE) scope.names [] h
  simp only [bind_pure_comp, map_pure] at *
  rw [this]
  · rfl
  · intro n k cs
    rfl
theorem closL_lookup {cells : List (Str × Addr)} : ∀ {names : Kinds} {acc : List (Str × Addr)}, (∀ y b, acc.lookup y = some b → cells.lookup y = some b) → (∀ n, (n, NameKind.free) ∈ names → (cells.lookup n).isSome) →
    (∀ y b, (closL cells names acc).lookup y = some b → cells.lookup y = some b) ∧ ∀ y, ((acc.lookup y).isSome ∨ (y, NameKind.free) ∈ names) → ((closL cells names acc).lookup y).isSome
  | [], acc, h, _ => ⟨h, fun y hy => hy.elim id fun q => nomatch q⟩
  | (n, k) :: r, acc, h, hn => by
    unfold closL
    have hn' : ∀ n, (n, NameKind.free) ∈ r → (cells.lookup n).isSome := fun m hm => hn m (List.mem_cons_of_mem _ hm)
    by_cases hk : k = .free
    · subst hk
      rw [if_pos rfl]
      obtain ⟨a, ha⟩ := Option.isSome_iff_exists.mp (hn n List.mem_cons_self)
      have ih := @closL_lookup cells r ((n, (cells.lookup n).getD 0) :: acc) (fun y b e => by
        rw [List.lookup_cons] at e
        by_cases q : y = n
        · subst q; simp [ha] at e; rw [ha, e]
        · rw [show (y == n) = false by simpa using q] at e; exact h y b e) hn'
      refine ⟨ih.1, fun y hy => ih.2 y ?_⟩
      by_cases q : y = n
      · left; subst q; simp
      · rcases hy with hy | hy
        · left; rw [List.lookup_cons, show (y == n) = false by simpa using q]; exact hy
        · rcases List.mem_cons.mp hy with e | hy
          · cases e; exact absurd rfl q
          · exact .inr hy
    · rw [if_neg hk]
      have ih := @closL_lookup cells r acc h hn'
      refine ⟨ih.1, fun y hy => ih.2 y (hy.imp id fun hy => ?_)⟩
      rcases List.mem_cons.mp hy with e | hy
      · cases e; exact absurd rfl hk
      · exact hy

theorem cells0 {names : Kinds} : ∀ {n : Nat} {acc : List (Str × Addr)} {h : Heap}, (∀ p ∈ names, p.2 ≠ .cell) → cellsFrom n names acc = acc ∧ pushCells h names = h := by
  induction names with
  | nil => exact fun _ => ⟨rfl, rfl⟩
  | cons p r ih =>
    intro n acc h hp
    unfold cellsFrom pushCells
    rw [beq_false_of_ne (hp p List.mem_cons_self)]
    exact ih fun q hm => hp q (List.mem_cons_of_mem _ hm)
theorem cells1 {x : Str} {names : Kinds} : ∀ {n : Nat} {acc : List (Str × Addr)} {h : Heap}, (names.map (·.1)).Nodup → (∀ m, (m, NameKind.cell) ∈ names → m = x) → (x, NameKind.cell) ∈ names →
    cellsFrom n names acc = (x, n) :: acc ∧ pushCells h names = h.push { cls := .type "cell", data := .cell none } := by
  induction names with
  | nil => exact fun _ _ h => absurd h List.not_mem_nil
  | cons p r ih =>
    intro n acc h hn hp hx
    obtain ⟨hn1, hn2⟩ := List.nodup_cons.mp hn
    obtain ⟨m, k⟩ := p
    unfold cellsFrom pushCells
    by_cases hk : k = .cell
    · subst hk
      have e := hp _ List.mem_cons_self
      subst e
      have z := fun n acc h => @cells0 r n acc h fun p hm q => hn1 (by
        have : p.1 = m := hp p.1 (List.mem_cons_of_mem _ (by rw [← q]; exact hm))
        exact this ▸ List.mem_map_of_mem (f := (·.1)) hm)
      exact ⟨(z _ _ h).1, (z n acc _).2⟩
    · rw [beq_false_of_ne hk]
      exact ih hn2 (fun m hm => hp m (List.mem_cons_of_mem _ hm)) ((List.mem_cons.mp hx).resolve_left fun e => hk (Prod.mk.inj e).2.symm)

/-- where a comprehension's variable lives -/
structure Tgt (c : Cx) (PE cenv : Env) (x : Str) (hot : Addr → Prop) (TS : Heap → Option Value → Prop) : Prop where
  live : ∀ h w a, TS h w → hot a → h.get? a ≠ none
  keep : ∀ h h' w, TS h w → (∀ a o, hot a → h.get? a = some o → h'.get? a = some o) → TS h' w
  store : ∀ (s : Shared) (w : Option Value) (v : Value) (Q : Unit → Shared → Prop) (E : Value → Shared → Prop) (A : Around) (px : Pos), TS s.heap w →
    (∀ h' tk, TS h' (some v) → (∀ b o, ¬ hot b → s.heap.get? b = some o → h'.get? b = some o) → Q () { s with heap := h', toks := tk }) → wpAny (Mo c) A (assign (.Name x px) cenv v) Q E s
  fram : ∀ h m v, TS h (some v) → Fram PE h m → Fram cenv h (fun y => if y = x then some v else m y)
  fhot : ∀ a, FHot cenv a → hot a ∨ FHot PE a
  ns : ∀ h w, TS h w → ∃ ml, h.Ns cenv.locals ml
  loc : hot cenv.locals

section
variable {c : Cx} {PE : Env} {x : Str} {scope : Scope} {C a : Addr}
theorem relabel_kindOf {cenv : Env} (hs : cenv.scope = relabel scope PE) (hk : PE.scope.kind = .function) (y : Str) : cenv.kindOf y = (scope.names.lookup y).map fun k => if k = .free ∧ PE.scope.names.lookup y = some .cell then .cell else k := by
  unfold Env.kindOf
  rw [hs, relab_eq hk, relab_lookup]

theorem tgt_local {cenv : Env} {cl : List (Str × Addr)} (S : SOk PE.scope.names x scope) (hPk : PE.scope.kind = .function) (hcl : ∀ y b, cl.lookup y = some b → PE.cells.lookup y = some b) (hcs : ∀ y, (y, NameKind.free) ∈ scope.names → (cl.lookup y).isSome)
    (hl : scope.names.lookup x = some .local) (hs : cenv.scope = relabel scope PE) (hC : cenv.locals = C) (hg : cenv.globals = PE.globals) (hb : cenv.builtins = PE.builtins) (hc : cenv.cells = cl) :
    Tgt c PE cenv x (fun b => b = C) (fun h w => ∃ ml, h.Ns C ml ∧ ∀ v, w = some v → ml x = some v) := by
  have kx : cenv.kindOf x = some .local := by rw [relabel_kindOf hs hPk, hl]; rfl
  have cellk : ∀ y, cenv.kindOf y = some .cell → y ≠ x ∧ PE.kindOf y = some .cell ∧ (y, NameKind.free) ∈ scope.names := by
    intro y hy
    rw [relabel_kindOf hs hPk, Option.map_eq_some_iff] at hy
    obtain ⟨k, h1, h2⟩ := hy
    split at h2
    · rename_i q
      rw [q.1] at h1
      exact ⟨(S.fr y (mem_of_lookup h1)).2, q.2, mem_of_lookup h1⟩
    · subst h2
      have : y = x := S.ce y (mem_of_lookup h1)
      rw [this, hl] at h1; cases h1
  refine ⟨?_, ?_, ?_, ?_, ?_, ?_, hC⟩
  · rintro h w b ⟨ml, ⟨o, es, ep, e, _⟩, _⟩ rfl
    simp [e]
  · rintro h h' w ⟨ml, ⟨o, es, ep, e, r⟩, q⟩ hk
    exact ⟨ml, ⟨o, es, ep, hk _ _ rfl e, r⟩, q⟩
  · rintro s w v Q E A px ⟨ml, hn, q⟩ hQ
    refine wpAny_assign_Name (wpAny_storeName_local kx (by rw [hC]; exact hn) (fun h' hn' hs' => ?_) (by rw [hs]; show (scope.kind == .class || (scope.kind == .module && _)) = false; rw [S.kind]; rfl))
    rw [hC] at hn' hs'
    exact hQ h' _ ⟨_, hn', fun u e => by simpa using e⟩ fun b o hb e => hs'.extBut b o hb e
  · rintro h m v ⟨ml, hn, q⟩ F
    refine ⟨by rw [hs]; exact S.kind, by rw [hg]; exact F.glob, by rw [hb]; exact F.bl, ⟨ml, by rw [hC]; exact hn, fun y h0 hy => ?_⟩, fun y hy => ?_⟩
    · rw [relabel_kindOf hs hPk, Option.map_eq_some_iff] at hy
      obtain ⟨k, h1, h2⟩ := hy
      have : k = .local := by
        split at h2
        · cases h2
        · exact h2
      subst this
      rcases S.lo y (mem_of_lookup h1) with e | e
      · subst e; simpa using q v rfl
      · exact absurd e h0
    · obtain ⟨h1, h2, h3⟩ := cellk y hy
      obtain ⟨b, hb⟩ := Option.isSome_iff_exists.mp (hcs y h3)
      obtain ⟨b', hb', hc'⟩ := F.cel y h2
      rw [hcl y b hb] at hb'; cases hb'
      exact ⟨b, by rw [hc]; exact hb, by rw [if_neg h1]; exact hc'⟩
  · rintro b (e | ⟨y, h1, h2⟩)
    · exact .inl (e.trans hC)
    · rw [hc] at h2
      exact .inr (.inr ⟨y, (cellk y h1).2.1, hcl y b h2⟩)
  · rintro h w ⟨ml, hn, _⟩
    exact ⟨ml, by rw [hC]; exact hn⟩

theorem tgt_cell {cenv : Env} {cl : List (Str × Addr)} (S : SOk PE.scope.names x scope) (hPk : PE.scope.kind = .function) (hcl : ∀ y b, cl.lookup y = some b → PE.cells.lookup y = some b) (hcs : ∀ y, (y, NameKind.free) ∈ scope.names → (cl.lookup y).isSome)
    (hl : scope.names.lookup x = some .cell) (hs : cenv.scope = relabel scope PE) (hC : cenv.locals = C) (hg : cenv.globals = PE.globals) (hb : cenv.builtins = PE.builtins) (hc : cenv.cells = (x, a) :: cl) (haC : a ≠ C) :
    Tgt c PE cenv x (fun b => b = C ∨ b = a) (fun h w => (∃ ml, h.Ns C ml) ∧ h.IsCell a w) := by
  have kx : cenv.kindOf x = some .cell := by rw [relabel_kindOf hs hPk, hl]; rfl
  have ck : cenv.scope.kind = .function := by rw [hs]; exact S.kind
  have cx : cenv.cells.lookup x = some a := by rw [hc]; simp
  have cellk : ∀ y, cenv.kindOf y = some .cell → y ≠ x → PE.kindOf y = some .cell ∧ (y, NameKind.free) ∈ scope.names := by
    intro y hy hne
    rw [relabel_kindOf hs hPk, Option.map_eq_some_iff] at hy
    obtain ⟨k, h1, h2⟩ := hy
    split at h2
    · rename_i q
      rw [q.1] at h1
      exact ⟨q.2, mem_of_lookup h1⟩
    · subst h2
      exact absurd (S.ce y (mem_of_lookup h1)) hne
  refine ⟨?_, ?_, ?_, ?_, ?_, ?_, .inl hC⟩
  · rintro h w b ⟨⟨ml, ⟨o, es, ep, e, _⟩⟩, o', e', _⟩ (rfl | rfl)
    · simp [e]
    · simp [e']
  · rintro h h' w ⟨⟨ml, ⟨o, es, ep, e, r⟩⟩, o', e', r'⟩ hk
    exact ⟨⟨ml, ⟨o, es, ep, hk _ _ (.inl rfl) e, r⟩⟩, o', hk _ _ (.inr rfl) e', r'⟩
  · rintro s w v Q E A px ⟨⟨ml, hn⟩, hv⟩ hQ
    refine wpAny_assign_Name (wpAny_storeName_cell ck kx cx hv (fun h' hv' hs' => ?_))
    exact hQ h' _ ⟨⟨ml, hn.sameBut hs' (Ne.symm haC)⟩, hv'⟩ fun b o hb e => hs'.extBut b o (fun q => hb (.inr q)) e
  · rintro h m v ⟨⟨ml, hn⟩, hv⟩ F
    refine ⟨ck, by rw [hg]; exact F.glob, by rw [hb]; exact F.bl, ⟨ml, by rw [hC]; exact hn, fun y h0 hy => ?_⟩, fun y hy => ?_⟩
    · rw [relabel_kindOf hs hPk, Option.map_eq_some_iff] at hy
      obtain ⟨k, h1, h2⟩ := hy
      have : k = .local := by
        split at h2
        · cases h2
        · exact h2
      subst this
      rcases S.lo y (mem_of_lookup h1) with e | e
      · rw [e, hl] at h1; cases h1
      · exact absurd e h0
    · by_cases e : y = x
      · subst e
        exact ⟨a, cx, by simpa using hv⟩
      · obtain ⟨h2, h3⟩ := cellk y hy e
        obtain ⟨b, hb⟩ := Option.isSome_iff_exists.mp (hcs y h3)
        obtain ⟨b', hb', hc'⟩ := F.cel y h2
        rw [hcl y b hb] at hb'; cases hb'
        refine ⟨b, ?_, by rw [if_neg e]; exact hc'⟩
        rw [hc, List.lookup_cons, show (y == x) = false by simpa using e]
        exact hb
  · rintro b (e | ⟨y, h1, h2⟩)
    · exact .inl (.inl (e.trans hC))
    · by_cases e : y = x
      · subst e
        rw [cx] at h2; cases h2
        exact .inl (.inr rfl)
      · rw [hc, List.lookup_cons, show (y == x) = false by simpa using e] at h2
        exact .inr (.inr ⟨y, (cellk y h1 e).1, hcl y b h2⟩)
  · rintro h w ⟨⟨ml, hn⟩, _⟩
    exact ⟨ml, by rw [hC]; exact hn⟩
end
end Mine

-- G7
namespace Mine

/-- a comprehension's tests -/
noncomputable def TsP (c : Cx) (κ : Nat) (PE : Env) (vars : Vars) (ifs : List Expr) (k : Nat) (r : Bool × Nat) : Prop :=
  ∀ A G s m, AOk κ A → St c PE G s k m vars → wpAny (Mo c) A (forIn ifs true fun c r => if r = true then do let ok ← isTrue c PE (eval c PE); pure (ForInStep.yield ok) else pure (ForInStep.yield r)) (PostB c G s r.2 r.1) NoE s
/-- a comprehension's turns -/
inductive CmP (c : Cx) (κ : Nat) (PE : Env) (x : Str) (vars : Vars) (ifs : List Expr) (e : Expr) : Nat → List D → List D × Nat → Prop
  | nil (k : Nat) : CmP c κ PE x vars ifs e k [] ([], k)
  | on {k k₁ : Nat} {d : D} {r : List D} {y : Bool × D × Nat} {z : List D × Nat} (h : TsP c κ PE ((x, false, d) :: vars) ifs k (true, k₁)) (g : EvP c κ PE ((x, false, d) :: vars) k₁ e y) (t : CmP c κ PE x vars ifs e y.2.2 r z) : CmP c κ PE x vars ifs e k (d :: r) (y.2.1 :: z.1, z.2)
  | off {k k₁ : Nat} {d : D} {r : List D} {z : List D × Nat} (h : TsP c κ PE ((x, false, d) :: vars) ifs k (false, k₁)) (t : CmP c κ PE x vars ifs e k₁ r z) : CmP c κ PE x vars ifs e k (d :: r) z
theorem ifs_snd {c : Cx} {κ : Nat} {PE : Env} {vars : Vars} {cl : Cl} {g : Vars → EvM} (S : Snd c κ PE vars cl (g vars)) (ifs : List Expr) (k : Nat) : Yl cl (evIfs g ifs vars k) (TsP c κ PE vars ifs k) := by
  cases ifs with
  | nil => exact .ret fun A G s m hA x => wpAny_tests_nil ⟨rfl, G, x.ok, .refl _ _⟩
  | cons t r =>
    exact .gd fun h => by
      cases r with
      | nil => exact (S.tr k t).mono fun r h A G s m hA x => wpAny_tests_one (h A G s m hA x)
      | cons _ _ => exact nopB <| h
theorem comp_turns {c : Cx} {κ : Nat} {PE : Env} {x : Str} {vars : Vars} {cl : Cl} {g : Vars → EvM} (S : ∀ d, Snd c κ PE ((x, false, d) :: vars) cl (g ((x, false, d) :: vars))) (ifs : List Expr) (e : Expr) :
    ∀ l k, Yl cl (compM (evIfs g ifs) g x vars e k l) (CmP c κ PE x vars ifs e k l)
  | [], k => .ret (.nil k)
  | d :: r, k => .bind (ifs_snd (S d) ifs k) fun b h => by
    obtain ⟨b, k₁⟩ := b
    exact .test (fun q => by cases q; exact .bind ((S d).ev k₁ e) fun y g => .bind (comp_turns S ifs e r y.2.2) fun z t => .ret (.on h g t)) fun q => by cases q; exact (comp_turns S ifs e r k₁).mono fun z t => .off h t

theorem lk_any {vars : Vars} {x y : Str} {d e : D} {o : Bool} (h : List.lookup y ((x, false, d) :: vars) = some (o, e)) : (y = x ∧ o = false ∧ e = d) ∨ (y ≠ x ∧ vars.lookup y = some (o, e)) := by
  rw [List.lookup_cons] at h
  by_cases q : y = x
  · subst q
    rw [beq_self_eq_true] at h
    cases h
    exact .inl ⟨rfl, rfl, rfl⟩
  · rw [beq_false_of_ne q] at h
    exact .inr ⟨q, h⟩
theorem lk_own {vars : Vars} {x y : Str} {d e : D} (h : List.lookup y ((x, false, d) :: vars) = some (true, e)) : y ≠ x ∧ vars.lookup y = some (true, e) :=
  (lk_any h).elim (fun q => (nopB <| q.2.1)) id
noncomputable def upd (x : Str) (v : Value) (m : Str → Option Value) : Str → Option Value := fun y => if y = x then some v else m y
theorem upd_ne {x y : Str} {v : Value} {m : Str → Option Value} (h : y ≠ x) : upd x v m y = m y := if_neg h
theorem upd_eq {x : Str} {v : Value} {m : Str → Option Value} : upd x v m x = some v := if_pos rfl

/-- what a comprehension's loop goes by -/
structure Lp where
  PE : Env
  cenv : Env
  x : Str
  A : Around
  G₁ : Heap
  s₁ : Shared
  I : Addr
  D : Addr
  hot : Addr → Prop
  TS : Heap → Option Value → Prop
  W : Nat → Heap → Prop
  fp : List Addr
  P : Nat → Value → Prop
  n : Nat
structure LFix (c : Cx) (L : Lp) : Prop where
  T : Tgt c L.PE L.cenv L.x L.hot L.TS
  Wk : Walks c.prog c.w L.A L.I L.fp [L.I] L.n L.P L.W
  wl : ∀ i h, L.W i h → h.get? L.I ≠ none
  fa : L.s₁.heap.get? c.fa ≠ none
  new : ∀ b, b = L.I ∨ b = L.D ∨ L.hot b → L.s₁.heap.get? b = none
  fpo : ∀ b ∈ L.fp, b = L.I ∨ (L.s₁.heap.get? b ≠ none ∧ b ≠ c.fa)
  ID : L.I ≠ L.D
  hI : ¬ L.hot L.I
  hD : ¬ L.hot L.D
/-- what stands between a comprehension's turns -/
structure LInv (c : Cx) (L : Lp) (G : Heap) (s : Shared) (k i : Nat) (acc : List Value) (ds : List Mine.D) (w : Option Value) : Prop where
  ok : Ok c G s k
  step : StepE c L.G₁ G L.s₁ s
  wk : L.W i s.heap
  d : ∃ n, s.heap.get? L.D = some (lstO acc n)
  isl : IsL c G acc ds
  ts : L.TS s.heap w
  gN : ∀ b, b = L.I ∨ b = L.D ∨ L.hot b → G.get? b = none
section
variable {c : Cx} {L : Lp} {κ : Nat} {G G' : Heap} {s s' : Shared} {k k' i j : Nat} {acc acc' : List Value} {ds ds' : List Mine.D} {w w' : Option Value}
theorem LFix.nfa (F : LFix c L) {b : Addr} (h : b = L.I ∨ b = L.D ∨ L.hot b) : b ≠ c.fa := fun e => F.fa (e ▸ F.new b h)
theorem LInv.stepE (F : LFix c L) (v : LInv c L G s k i acc ds w) (t : StepE c G G' s s') (o : Ok c G' s' k') : LInv c L G' s' k' i acc ds w := by
  obtain ⟨nd, hd⟩ := v.d
  refine ⟨o, v.step.trans t, F.Wk.frame _ _ _ v.wk fun b hb ob e => t.keep _ _ ?_ id e, ⟨nd, t.keep _ _ (F.nfa (.inr (.inl rfl))) id hd⟩, v.isl.mono t.le, F.T.keep _ _ _ v.ts fun b ob hb e => t.keep _ _ (F.nfa (.inr (.inr hb))) id e, fun b hb => t.none ?_ (v.gN b hb)⟩
  · rcases F.fpo b hb with e | h
    · exact F.nfa (.inl e)
    · exact h.2
  · rcases hb with e | e | e
    · rw [e]; exact F.wl _ _ v.wk
    · rw [e]; exact fun q => nopO <| hd.symm.trans q
    · exact F.T.live _ _ _ v.ts e
/-- a change at the loop's own places -/
theorem LInv.chg (F : LFix c L) (v : LInv c L G s k i acc ds w) {h' : Heap} {tk : Nat} (bad : Addr → Prop) (hk : ∀ b o, ¬ bad b → s.heap.get? b = some o → h'.get? b = some o) (hb : ∀ b, bad b → b = L.I ∨ b = L.D ∨ L.hot b)
    (wk : L.W j h') (d : ∃ n, h'.get? L.D = some (lstO acc' n)) (isl : IsL c G acc' ds') (ts : L.TS h' w') : LInv c L G { s with heap := h', toks := tk } k j acc' ds' w' :=
  ⟨v.ok.chg bad hk fun b q => ⟨v.gN b (hb b q), F.nfa (hb b q)⟩, v.step.chg bad hk (fun b q => F.new b (hb b q)) fun q => F.nfa (hb _ q) rfl, wk, d, isl, ts, v.gN⟩
theorem LInv.wkK (F : LFix c L) (v : LInv c L G s k i acc ds w) {h' : Heap} {bad : Addr → Prop} (hk : ∀ b o, ¬ bad b → s.heap.get? b = some o → h'.get? b = some o) (hI : ¬ bad L.I) (hn : ∀ b, bad b → L.s₁.heap.get? b = none) : L.W i h' :=
  F.Wk.frame _ _ _ v.wk fun b hb o e => hk b o (fun q => by
    rcases F.fpo b hb with rfl | h
    · exact hI q
    · exact h.1 (hn b q)) e
theorem LInv.dK (v : LInv c L G s k i acc ds w) {h' : Heap} {bad : Addr → Prop} (hk : ∀ b o, ¬ bad b → s.heap.get? b = some o → h'.get? b = some o) (hD : ¬ bad L.D) : ∃ n, h'.get? L.D = some (lstO acc n) :=
  let ⟨n, h⟩ := v.d; ⟨n, hk _ _ hD h⟩
/-- the block within, its variable bound -/
theorem LInv.inner {m : Str → Option Value} {vars : Vars} {k₁ : Nat} {val : Value} {d : Mine.D} (F : LFix c L) (v : LInv c L G s k i acc ds (some val)) (x₁ : St c L.PE L.G₁ L.s₁ k₁ m vars) (hi : Is c L.G₁ val d) :
    St c L.cenv G s k (upd L.x val m) ((L.x, false, d) :: vars) := by
  have x := x₁.step v.step v.ok
  refine ⟨v.ok, F.T.fram _ _ _ v.ts x.fr, fun b hb => ?_, fun y o e hy => ?_, fun y z e e' b h1 h2 h3 h4 => ?_, fun y e b h1 h2 hb => ?_⟩
  · rcases F.T.fhot b hb with q | q
    · exact ⟨v.gN b (.inr (.inr q)), F.nfa (.inr (.inr q))⟩
    · exact x.hotG b q
  · rcases lk_any hy with ⟨rfl, rfl, rfl⟩ | ⟨h1, h2⟩
    · exact ⟨val, upd_eq, hi.mono v.step.le⟩
    · obtain ⟨u, h3, h4⟩ := x.val y o e h2
      exact ⟨u, (upd_ne h1).trans h3, h4⟩
  · rw [upd_ne (lk_own h1).1] at h3
    rw [upd_ne (lk_own h2).1] at h4
    exact x.sep y z e e' b (lk_own h1).2 (lk_own h2).2 h3 h4
  · rw [upd_ne (lk_own h1).1] at h2
    rcases F.T.fhot b hb with q | q
    · obtain ⟨u, h5, h6⟩ := x₁.val y true e (lk_own h1).2
      rw [h2] at h5
      cases h5
      obtain ⟨b', e1, e2, _⟩ := Own.live h6
      cases e1
      exact e2 (F.new _ (.inr (.inr q)))
    · exact x.hot y e b (lk_own h1).2 h2 q
/-- between two turns -/
noncomputable def LAt (c : Cx) (κ : Nat) (L : Lp) (vars : Vars) (ifs : List Expr) (elt : Expr) (l ys : List Mine.D) (k₂ : Nat) (q : Nat) (s : Shared) : Prop :=
  ∃ G k i acc ds w zs, LInv c L G s k i acc ds w ∧ i ≤ l.length ∧ q = l.length + 1 - i ∧ acc.length ≤ i ∧ CmP c κ L.cenv L.x vars ifs elt k (l.drop i) (zs, k₂) ∧ ys = ds ++ zs
theorem drop_at {l : List Mine.D} {d : Mine.D} (h : l[i]? = some d) : l.drop i = d :: l.drop (i + 1) := by
  obtain ⟨hlt, e⟩ := List.getElem?_eq_some_iff.mp h
  rw [List.drop_eq_getElem_cons hlt, e]
theorem comp_loop (F : LFix c L) {k₁ : Nat} {m : Str → Option Value} {vars : Vars} (x₁ : St c L.PE L.G₁ L.s₁ k₁ m vars) (hA : AOk κ L.A) {l : List Mine.D} (hn : l.length = L.n) (hl : l.length ≤ lim)
    (hP : ∀ i v, i < l.length → L.P i v → ∃ d, l[i]? = some d ∧ Is c L.G₁ v d)
    {elt iter : Expr} {px pos : Pos} {ifs : List Expr} {scope : Scope} {ys : List Mine.D} {k₂ : Nat} (h : CmP c κ L.cenv L.x vars ifs elt k₁ l (ys, k₂))
    {s₃ : Shared} (v₀ : LInv c L L.G₁ s₃ k₁ 0 [] [] none)
    {R : Result → Shared → Prop} (hR : ∀ G s acc, Ok c G s k₂ → StepE c L.G₁ G L.s₁ s → (∃ n, s.heap.get? L.D = some (lstO acc n)) → IsL c G acc ys → (∃ ml, s.heap.Ns L.cenv.locals ml) → (∀ b, b = L.I ∨ b = L.D ∨ L.hot b → G.get? b = none) → R (.ok .next) s) :
    codeAny (Mo c) L.A (.compLoop (.ListComp elt [⟨.Name L.x px, iter, ifs, 0⟩] scope pos) 0 (.ref L.I) (.ref L.D) L.cenv) R s₃ := by
  refine codeAny_compLoop_tests (LAt c κ L vars ifs elt l ys k₂) ?_ (l.length + 1) ⟨L.G₁, k₁, 0, [], [], none, ys, v₀, Nat.zero_le _, rfl, Nat.le_refl _, h, rfl⟩
  rintro q s ⟨G, k, i, acc, ds, w, zs, v, hi, rfl, hal, hz, rfl⟩
  by_cases hlt : i < l.length
  · refine F.Wk.item i _ _ _ (hn ▸ hlt) v.wk fun val h₄ tk₄ hPv hW₄ hk₄ => ?_
    obtain ⟨d, hdi, hId⟩ := hP i val hlt hPv
    have hk₄' : ∀ b o, ¬ (b = L.I) → s.heap.get? b = some o → h₄.get? b = some o := fun b o hb e => hk₄ b o (fun q => hb (List.mem_singleton.mp q)) e
    have v₄ := v.chg F (tk := tk₄) (fun b => b = L.I) hk₄' (fun b e => .inl e) hW₄ (v.dK hk₄' (Ne.symm F.ID)) v.isl (F.T.keep _ _ _ v.ts fun b o hb e => hk₄' _ _ (fun q => F.hI (q ▸ hb)) e)
    clear v hk₄ hk₄' hW₄
    generalize ({ s with heap := h₄, toks := tk₄ } : Shared) = s₄ at v₄ ⊢
    refine F.T.store s₄ w val _ _ L.A px v₄.ts fun h₅ tk₅ hT₅ hk₅ => ?_
    have v₅ := v₄.chg F (tk := tk₅) L.hot hk₅ (fun b e => .inr (.inr e)) (v₄.wkK F hk₅ F.hI fun b q => F.new b (.inr (.inr q))) (v₄.dK hk₅ F.hD) v₄.isl hT₅
    clear v₄ hk₅ hT₅
    generalize ({ s₄ with heap := h₅, toks := tk₅ } : Shared) = s₅ at v₅ ⊢
    have y₅ := v₅.inner F x₁ hId
    rw [drop_at hdi] at hz
    cases hz with
    | off ht hz =>
      refine wseq (ht _ _ _ _ hA y₅) fun r s₆ p => ?_
      obtain ⟨rfl, G₆, o₆, t₆⟩ := p
      exact ⟨l.length + 1 - (i + 1), by omega, G₆, _, i + 1, acc, ds, _, zs, v₅.stepE F t₆ o₆, hlt, rfl, Nat.le_succ_of_le hal, hz, rfl⟩
    | on ht he hz =>
      refine wseq (ht _ _ _ _ hA y₅) fun r s₆ p => ?_
      obtain ⟨rfl, G₆, o₆, t₆⟩ := p
      refine he.use hA (y₅.step t₆ o₆) fun u s₇ G₇ o₇ t₇ i₇ => ?_
      have v₇ := v₅.stepE F (t₆.trans t₇) o₇
      clear v₅ y₅ t₆ o₆ t₇ o₇ ht
      obtain ⟨nd, hd⟩ := v₇.d
      refine append_at (hsz := by show acc.toArray.size ≤ sizeLine; rw [List.size_toArray]; exact lim_size (Nat.le_trans (Nat.le_trans hal hi) hl)) hd fun h₈ hs₈ hD₈ => ?_
      have hk₈ : ∀ b o, ¬ (b = L.D) → s₇.heap.get? b = some o → h₈.get? b = some o := fun b o hb e => hs₈.extBut b o hb e
      refine ⟨l.length + 1 - (i + 1), by omega, G₇, _, i + 1, acc ++ [u], ds ++ [_], _, _, v₇.chg F (tk := s₇.toks) (fun b => b = L.D) hk₈ (fun b e => .inr (.inl e)) (v₇.wkK F hk₈ F.ID fun b q => F.new b (.inr (.inl q))) ⟨nd + 1, ?_⟩ (v₇.isl.append (.cons i₇ .nil)) (F.T.keep _ _ _ v₇.ts fun b o hb e => hk₈ _ _ (fun q => F.hD (q ▸ hb)) e),
        hlt, rfl, by rw [List.length_append, List.length_singleton]; exact Nat.succ_le_succ hal, hz, by rw [List.append_assoc]; rfl⟩
      rw [hD₈, List.push_toArray]
  · have hi' : i = l.length := Nat.le_antisymm hi (Nat.not_lt.mp hlt)
    subst hi'
    rw [List.drop_length] at hz
    cases hz
    refine F.Wk.done _ _ _ (hn ▸ v.wk) fun h₄ tk₄ hk₄ => ?_
    have hk₄' : ∀ b o, ¬ (b = L.I) → s.heap.get? b = some o → h₄.get? b = some o := fun b o hb e => hk₄ b o (fun q => hb (List.mem_singleton.mp q)) e
    obtain ⟨ml, hml⟩ := F.T.ns _ _ v.ts
    exact hR G _ acc (v.ok.chg (fun b => b = L.I) hk₄' (fun b e => ⟨v.gN b (.inl e), F.nfa (.inl e)⟩)) (v.step.chg (fun b => b = L.I) hk₄' (fun b e => F.new b (.inl e)) (fun e => F.nfa (.inl e) rfl)) (v.dK hk₄' (Ne.symm F.ID)) (by rw [List.append_nil]; exact v.isl)
      ⟨ml, hml.at' fun o e => hk₄' _ _ (fun q => F.hI (q ▸ F.T.loc)) e⟩ v.gN
end

theorem not_set_folded {iter : Expr} (env : Env) (h : ∀ es k p, iter ≠ .Set es k p) (x : Value) : foldedSetIterable iter env x = pure x := by
  cases iter <;> first | rfl | exact absurd rfl (h _ _ _)

theorem newEnv_cell {M : Model} {A : Around} {E : Value → Shared → Prop} {s : Shared} {scope : Scope} {globals : Addr} {cl : List (Str × Addr)} {qual : Str} {outer : Env} {x : Str} {Q : Env → Shared → Prop}
    (hn : (scope.names.map (·.1)).Nodup) (hp : ∀ m, (m, NameKind.cell) ∈ scope.names → m = x) (hx : (x, NameKind.cell) ∈ scope.names)
    (h : Q { scope, locals := s.heap.objs.size, globals, cells := (x, s.heap.objs.size + 1) :: cl, qual, func := none, code := outer.code, frame := outer.frame, builtins := outer.builtins }
      { s with heap := (s.heap.push { cls := .type "dict", data := .dict #[] }).push { cls := .type "cell", data := .cell none } }) :
    wpAny M A (newFunctionEnv scope globals cl [] qual none .none (some outer)) Q E s := by
  simp only [newFunctionEnv, Option.isSome_some, if_true]
  refine wpAny_bind (wpAny_alloc ?_)
  refine wpAny_bind (wpAny_layCells _ (fun name kind cells => by cases hkc : kind == NameKind.cell <;> simp [hkc]) _ _ _ _ ?_)
  rw [(cells1 (n := 0) (acc := cl) (h := s.heap.push { cls := .type "dict", data := .dict #[] }) hn hp hx).2, (cells1 (h := s.heap) hn hp hx).1, List.forIn_nil]
  refine wpAny_bind (wpAny_pure (wpAny_pure ?_))
  rw [show ({ s with heap := s.heap.push { cls := .type "dict", data := .dict #[] } } : Shared).heap.objs.size = s.heap.objs.size + 1 from Heap.size_push ..]
  exact h

section
variable {c : Cx} {PE : Env} {x : Str} {κ : Nat} {A : Around} {G : Heap} {s : Shared} {k : Nat} {m : Str → Option Value} {vars : Vars}
theorem comp_core {use : Option (Value → Sem Unit)} {Q : Value → Shared → Prop} {cpos : Pos} {elt iter : Expr} {px pos : Pos} {ifs : List Expr} {scope : Scope} {l ys : List Mine.D} {k₁ k₂ : Nat} (hso : scopeOk PE.scope.names x scope = true) (x₀ : St c PE G s k m vars) (hA : AOk κ A)
    (hset : ∀ es k p, iter ≠ .Set es k p) (hl : l.length ≤ lim)
    (hsrc : wpAny (Mo c) A (eval iter PE) (fun xv s₁ => ∃ G₁, Ok c G₁ s₁ k₁ ∧ StepE c G G₁ s s₁ ∧ IterOf c A G₁ s₁ xv l) NoE s)
    (h : ∀ PE' : Env, PE'.scope.names = relab PE.scope.names scope.names → CmP c κ PE' x vars ifs elt k₁ l (ys, k₂))
    (hfin : ∀ G' s' D C, Ok c G' s' k₂ → StepE c G G' s s' → Own c G' s'.heap (.ref D) (.lst ys) → s.heap.get? D = none → s.heap.get? C = none → G'.get? C = none → C ≠ c.fa → D ≠ C → (∃ ml, s'.heap.Ns C ml) → compPost (Mo c) A NoE use Q (.ref D) C (.ok .next) s') :
    wpAny (Mo c) A (comprehension (.ListComp elt [⟨.Name x px, iter, ifs, 0⟩] scope pos) scope PE cpos (newList []) false (eval iter PE) use) Q NoE s := by
  have S := scopeOk_iff hso
  have hPk := x₀.fr.kind
  have hcs : ∀ n, (n, NameKind.free) ∈ scope.names → (PE.cells.lookup n).isSome := fun n hn => by
    obtain ⟨a, ha, _⟩ := x₀.fr.cel n (S.fr n hn).1
    rw [ha]; rfl
  obtain ⟨cl1, cl2⟩ := closL_lookup (cells := PE.cells) (names := scope.names) (acc := []) (fun _ _ e => nopO <| e) hcs
  refine wpAny_comprehension_free rfl (not_set_folded PE hset) (closureFor_is hcs) S.kind (fun p hp e => nodup_lookup S.nodup (by obtain ⟨a, b⟩ := p; cases e; exact hp)) (wseq hsrc fun xv s₁ p => ?_)
  obtain ⟨G₁, o₁, t₁, it⟩ := p
  have x₁ := x₀.step t₁ o₁
  refine it _ _ fun I fp P W h₂ tk₂ hW hwl hI hk₂ hW0 hfp hP => ?_
  refine wpAny_newObj_type ?_
  -- the list that grows lies at D
  have hDk : ∀ b o, h₂.get? b = some o → (h₂.push (lstO [] 0)).get? b = some o := fun b o e => Heap.get?_push_of_some _ e
  have fr : ∀ b, h₂.objs.size ≤ b → s₁.heap.get? b = none := fun b e => by
    cases q : s₁.heap.get? b with
    | none => rfl
    | some o => exact absurd (Heap.lt_size (hk₂ b o q)) (Nat.not_lt.mpr e)
  have Ilt : I < h₂.objs.size := by
    obtain ⟨o, ho⟩ := Option.ne_none_iff_exists'.mp (hwl _ _ hW0)
    exact Heap.lt_size ho
  -- the loop, wherever the variable lives
  have main : ∀ (cenv : Env) (hot : Addr → Prop) (TS : Heap → Option Value → Prop) (h₃ : Heap) (tk₃ : Nat), Tgt c PE cenv x hot TS → cenv.scope = relabel scope PE → TS h₃ none → (∀ b, hot b → h₂.objs.size < b) →
      (∀ b o, (h₂.push (lstO [] 0)).get? b = some o → h₃.get? b = some o) →
      codeAny (Mo c) A (.compStart (.ListComp elt [⟨.Name x px, iter, ifs, 0⟩] scope pos) 0 (.ref I) (.ref h₂.objs.size) cenv) (compPost (Mo c) A NoE use Q (.ref h₂.objs.size) cenv.locals) { s₁ with heap := h₃, toks := tk₃ } := by
    intro cenv hot TS h₃ tk₃ T hs hT hb hk₃
    have hk : ∀ b o, s₁.heap.get? b = some o → h₃.get? b = some o := fun b o e => hk₃ b o (hDk b o (hk₂ b o e))
    have new : ∀ b, b = I ∨ b = h₂.objs.size ∨ hot b → s₁.heap.get? b = none := fun b q => by
      rcases q with q | q | q
      · exact q ▸ hI
      · exact fr b (Nat.le_of_eq q.symm)
      · exact fr b (Nat.le_of_lt (hb b q))
    have gN : ∀ b, b = I ∨ b = h₂.objs.size ∨ hot b → G₁.get? b = none := fun b e => by
      cases q : G₁.get? b with
      | none => rfl
      | some o => exact nopO <| (o₁.sub b o q).symm.trans (new b e)
    have old : ∀ b, s₁.heap.get? b = none → s.heap.get? b = none := fun b e => by
      cases q : s.heap.get? b with
      | none => rfl
      | some o => exact absurd e (t₁.live b fun z => nopO <| q.symm.trans z)
    have F : LFix c ⟨PE, cenv, x, A, G₁, s₁, I, h₂.objs.size, hot, TS, W, fp, P, l.length⟩ :=
      ⟨T, hW, hwl, o₁.falive, new, fun b hb => (hfp b hb).imp id fun z => ⟨z.1, z.2.1⟩, Nat.ne_of_lt Ilt, fun q => absurd (hb _ q) (Nat.not_lt.mpr (Nat.le_of_lt Ilt)), fun q => Nat.lt_irrefl _ (hb _ q)⟩
    have W3 : W 0 h₃ := hW.frame _ _ _ hW0 fun b _ o e => hk₃ b o (hDk b o e)
    have loop := comp_loop F x₁ hA rfl hl hP (h cenv (by rw [hs, relab_eq hPk])) (s₃ := { s₁ with heap := h₃, toks := tk₃ }) ⟨o₁.keep hk, StepE.of_keep hk, W3, ⟨0, hk₃ _ _ (Heap.get?_push_size _ rfl)⟩, .nil, hT, gN⟩ (elt := elt) (iter := iter) (px := px) (pos := pos) (ifs := ifs) (scope := scope)
      (R := compPost (Mo c) A NoE use Q (.ref h₂.objs.size) cenv.locals) (fun G' s' acc o' t' hd isl hns gN' =>
        hfin G' s' _ _ o' (t₁.trans t') (let ⟨n, hd⟩ := hd; Own.lst (gN' _ (.inr (.inl rfl))) (F.nfa (.inr (.inl rfl))) hd isl) (old _ (new _ (.inr (.inl rfl)))) (old _ (new _ (.inr (.inr T.loc)))) (gN' _ (.inr (.inr T.loc))) (F.nfa (.inr (.inr T.loc))) (fun e => F.hD (e ▸ T.loc)) hns)
    exact codeAny_compStart_list loop (hW.self 0 _ _ _ W3 loop)
  rcases (isLoc_kind (PE := { PE with scope := scope }) S.loc).1 with hx | hx
  · have hx : scope.names.lookup x = some .local := hx
    have nc : ∀ y ∈ scope.names, y.2 ≠ .cell := fun y hy e => by
      obtain ⟨n, kd⟩ := y
      dsimp only at e
      subst e
      have e2 := nodup_lookup S.nodup hy
      rw [S.ce n hy, hx] at e2; cases e2
    refine wpAny_newFunctionEnv nc (by intro y hy; exact nomatch hy) (fun h' hns hsb => ?_) S.kind
    refine main _ _ _ h' _ (tgt_local S hPk cl1 (fun y hy => cl2 y (.inr hy)) hx rfl rfl rfl rfl rfl) rfl ⟨_, hns, fun v e => nopO <| e⟩ (fun b hb => ?_) fun b o e => hsb.extBut b o (fresh_ne e) (Heap.get?_push_of_some _ e)
    subst hb
    show h₂.objs.size < (h₂.push _).objs.size
    rw [Heap.size_push]
    exact Nat.lt_succ_self _
  · have hx : scope.names.lookup x = some .cell := hx
    refine newEnv_cell S.nodup S.ce (mem_of_lookup hx) ?_
    refine main _ _ _ _ _ (tgt_cell S hPk cl1 (fun y hy => cl2 y (.inr hy)) hx rfl rfl rfl rfl rfl (Nat.ne_of_gt (Nat.lt_succ_self _))) rfl ⟨⟨_, (Heap.Ns.new _ (.type "dict")).push _⟩, ⟨{ cls := .type "cell", data := .cell none }, ?_, rfl⟩⟩ (fun b hb => ?_) fun b o e => Heap.get?_push_of_some _ (Heap.get?_push_of_some _ e)
    · show ((_ : Heap).push _).get? ((h₂.push _).objs.size + 1) = _
      rw [← Heap.size_push (h₂.push _) { cls := .type "dict", data := .dict #[] }]
      exact Heap.get?_push_size _ rfl
    · have hz : h₂.objs.size < (h₂.push (lstO [] 0)).objs.size := by rw [Heap.size_push]; exact Nat.lt_succ_self _
      rcases hb with hb | hb
      · rw [hb]; exact hz
      · rw [hb]; exact Nat.lt_succ_of_lt hz
theorem comp_snd {elt iter : Expr} {px pos : Pos} {ifs : List Expr} {scope : Scope} {l ys : List Mine.D} {k₁ k₂ : Nat} (hso : scopeOk PE.scope.names x scope = true) (x₀ : St c PE G s k m vars) (hA : AOk κ A)
    (hset : ∀ es k p, iter ≠ .Set es k p) (hl : l.length ≤ lim)
    (hsrc : wpAny (Mo c) A (eval iter PE) (fun xv s₁ => ∃ G₁, Ok c G₁ s₁ k₁ ∧ StepE c G G₁ s s₁ ∧ IterOf c A G₁ s₁ xv l) NoE s)
    (h : ∀ PE' : Env, PE'.scope.names = relab PE.scope.names scope.names → CmP c κ PE' x vars ifs elt k₁ l (ys, k₂)) :
    wpAny (Mo c) A (eval (.ListComp elt [⟨.Name x px, iter, ifs, 0⟩] scope pos) PE) (PostE c G s k₂ true (.lst ys)) NoE s := by
  rw [eval_ListComp]
  refine comp_core (use := none) hso x₀ hA hset hl hsrc h fun G' s' D C o t w hD hC gC nC hDC hns => ?_
  obtain ⟨ml, hml⟩ := hns
  refine ⟨ml, hml, fun h' hs' => ?_⟩
  have hk' : ∀ b o, ¬ (b = C) → s'.heap.get? b = some o → h'.get? b = some o := fun b o hb e => hs'.extBut b o hb e
  refine ⟨G', o.chg (tk := s'.toks) (fun b => b = C) hk' (fun b e => by subst e; exact ⟨gC, nC⟩), t.chg (tk := s'.toks) (fun b => b = C) hk' (fun b e => by subst e; exact hC) (Ne.symm nC), ?_, fun _ a e => by cases e; exact hD⟩
  exact w.mono Sub.rfl' (fun _ _ e => e) fun a ob ha _ e => hk' a ob (by cases ha; exact hDC) e
end
end Mine

-- G8
namespace Mine

section
variable {c : Cx} {PE : Env} {vars : Vars} {cl : Cl} {f : EvM} {κ : Nat} {A : Around} {G : Heap} {s : Shared} {k : Nat} {m : Str → Option Value} {e : Expr} {E : Value → Shared → Prop}
/-- one argument handed to a type -/
theorem callType1 {T : String} {pos : Pos} {Q : Value → Shared → Prop} (hs : Plain e = true) (h : wpAny (Mo c) A (eval e PE) (fun v s₁ => wpAny (Mo c) A (call (.type T) [v]) Q E s₁) E s) :
    wpAny (Mo c) A (callWith pos (.type T) [] (backTo pos (starEach [e] PE)) []) Q E s :=
  Pv.callWith_type1 (wpAny_items_cons (wpAny_mono h (fun v s₁ h₁ => wpAny_items_nil h₁) fun _ _ e => e) (starEach_cons (noStarE hs))) (starEach_cons (noStarE hs)) rfl
theorem callBuiltin1 {T : String} {pos : Pos} {Q : Value → Shared → Prop} (hs : Plain e = true) (h : wpAny (Mo c) A (eval e PE) (fun v s₁ => wpAny (Mo c) A (call (.builtin T) [v]) Q E s₁) E s) :
    wpAny (Mo c) A (callWith pos (.builtin T) [] (backTo pos (starEach [e] PE)) []) Q E s :=
  PyProof.Rows.callWith_builtin1 (wpAny_items_cons (wpAny_mono h (fun v s₁ h₁ => wpAny_items_nil h₁) fun _ _ e => e) (starEach_cons (noStarE hs))) (starEach_cons (noStarE hs)) rfl

/-- what stands to be gone over -/
structure SrP (c : Cx) (κ : Nat) (PE : Env) (vars : Vars) (k : Nat) (e : Expr) (r : List D × Nat) : Prop where
  pl : Plain e = true
  run : ∀ A G s m, AOk κ A → St c PE G s k m vars → wpAny (Mo c) A (eval e PE) (fun xv s₁ => ∃ G₁, Ok c G₁ s₁ r.2 ∧ StepE c G G₁ s s₁ ∧ IterOf c A G₁ s₁ xv r.1) NoE s
theorem TpP.src {x : D × Nat} {l : List D} (h : TpP c κ PE vars k e x) (hl : x.1 = .lst l ∨ x.1 = .tup l) : SrP c κ PE vars k e (l, x.2) :=
  ⟨h.pl, fun A G s m hA st => h.use hA st fun v s₁ G₁ o t n => ⟨G₁, o, t, iter_seq o n hl hA.handled⟩⟩
theorem EvP.src {x : Bool × D × Nat} {l : List D} (h : EvP c κ PE vars k e x) (hl : x.2.1 = .lst l ∨ x.2.1 = .tup l) : SrP c κ PE vars k e (l, x.2.2) := h.tp.src hl
theorem call1_of {v : EV e} {q : Str × Expr} : call1 v = some q → ∃ p pos, e = .Call (.Name q.1 p) [q.2] [] pos := by
  cases v
  case cal fn p args pos =>
    cases args with
    | nil => exact fun h => nopO h
    | cons a r =>
      cases r with
      | nil => intro h; cases h; exact ⟨p, pos, rfl⟩
      | cons _ _ => exact fun h => nopO h
  all_goals exact fun h => nopO h
theorem range_src {x : Bool × D × Nat} {i : Int} {p pos : Pos} (T : TbOk c) (hg : isGlob PE.scope.names (⟨#[114, 97, 110, 103, 101]⟩ : Str) = true) (h : EvP c κ PE vars k e x) (hi : x.2.1 = .int i) (h0 : 0 ≤ i ∧ i ≤ 4096) :
    SrP c κ PE vars k (.Call (.Name (⟨#[114, 97, 110, 103, 101]⟩ : Str) p) [e] [] pos) (rangeD i.toNat, x.2.2) :=
  ⟨rfl, fun A G s m hA st => Call_ (st.bltn hg T.range.1 T.range.2 (callType1 h.pl (h.use hA st fun v s₁ G₁ o₁ t₁ i₁ => by
    rw [hi] at i₁
    cases i₁
    obtain ⟨n, rfl⟩ := Int.eq_ofNat_of_zero_le h0.1
    exact call_range_1 ⟨G₁, o₁.keep fun b o e => Heap.get?_push_of_some _ e, t₁.trans (StepE.of_keep fun b o e => Heap.get?_push_of_some _ e), iter_range (IsRange.new _ _ _ _ _ _ _) (Int.ofNat_le.mp h0.2) hA.handled⟩)))⟩
theorem Yl.range {d : D} : Yl cl (rangeM d) fun l => ∃ i, d = .int i ∧ (0 ≤ i ∧ i ≤ 4096) ∧ l = rangeD i.toNat := .bind .asI fun i e => .ask fun h => .ret ⟨i, e, dec h, rfl⟩
theorem Snd.range (S : Snd c κ PE vars cl f) (T : TbOk c) {fn : Str} {p pos : Pos} (hg : isGlob PE.scope.names fn = true) (hr : (fn == (⟨#[114, 97, 110, 103, 101]⟩ : Str)) = true) (a : Expr) :
    Yl cl ((f k a).bind fun x => (rangeM x.2.1).bind fun l => .ret (l, x.2.2)) (SrP c κ PE vars k (.Call (.Name fn p) [a] [] pos)) :=
  .bind (S.ev k a) fun x h => .bind .range fun l ⟨i, e, h0, q⟩ => .ret (by cases eq_of_beq hr; subst q; exact range_src T hg h e h0)
theorem Snd.src (S : Snd c κ PE vars cl f) (T : TbOk c) (k : Nat) (e : Expr) : Yl cl (evSrc f PE.scope.names vars k e) (SrP c κ PE vars k e) := by
  unfold evSrc
  cases hc : call1 (viewE e) with
  | none => exact .bind (S.t k e) fun x h => .bind .asL fun l q => .ret (h.src q)
  | some q =>
    obtain ⟨p, pos, rfl⟩ := call1_of hc
    exact .gd fun h => S.range T (and2 h).2 (and2 h).1 q.2

noncomputable def OpP (c : Cx) (κ : Nat) (PE : Env) (vars : Vars) (k : Nat) (e : Option Expr) (r : Option Int × Nat) : Prop :=
  ∀ A G s m, AOk κ A → St c PE G s k m vars → wpAny (Mo c) A (evalPart e PE) (fun v s₁ => IsPart v r.1 ∧ ∃ G₁, Ok c G₁ s₁ r.2 ∧ StepE c G G₁ s s₁) NoE s
theorem Snd.opt (S : Snd c κ PE vars cl f) (k : Nat) : ∀ e, Yl cl (optInt f k e) (OpP c κ PE vars k e)
  | none => .ret fun A G s m hA x => wpAny_pure ⟨.none, G, x.ok, .refl _ _⟩
  | some e => .bind (S.ev k e) fun x h => .bind .asI fun i q => .ret fun A G s m hA st => h.use hA st fun v s₁ G₁ o₁ t₁ i₁ => by
    rw [q] at i₁
    cases i₁
    exact ⟨.int _ _, G₁, o₁, t₁⟩

theorem slc_snd {vs : List Value} {ds : List D} (h : IsL c G vs ds) (lo hi : Option Int) : IsL c G (slicePick vs.toArray lo hi none).toList (slcD ds lo hi) := by
  unfold slicePick slcD
  have e : vs.toArray.size = ds.length := by simp only [List.size_toArray]; exact h.1
  rw [e]
  generalize sliceRange _ _ _ = idx
  simp only
  induction idx with
  | nil => exact .nil
  | cons i r ih =>
    simp only [List.filterMap_cons, List.getElem?_toArray]
    cases q : ds[i]? with
    | none =>
      have : vs[i]? = none := by
        rw [List.getElem?_eq_none_iff] at q ⊢
        rw [h.1]; exact q
      rw [this]
      simpa using ih
    | some d =>
      obtain ⟨v, hv, hd⟩ := h.get q
      rw [hv]
      simp only
      exact .cons hd (by simpa using ih)


theorem j_slc {x : Str} {p q pos : Pos} {lo hi : Option Expr} {y : D × Nat} {u w : Option Int × Nat} {l : List D} (h1 : TpP c κ PE vars k (.Name x p) y) (h2 : OpP c κ PE vars y.2 lo u) (h3 : OpP c κ PE vars u.2 hi w) (hy : y.1 = .lst l) (hl : l.length ≤ lim) :
    EvP c κ PE vars k (.Subscript (.Name x p) (.Slice lo hi none q) pos) (true, .lst (slcD l u.1 w.1), w.2) := by
  refine ⟨rfl, fun A G s m hA st => ?_⟩
  refine wpAny_Subscript_Slice slot_list_getitem.lookup (h1.use hA st fun v s₁ G₁ o₁ t₁ n₁ => ?_) (fun _ _ => rfl)
  have st₁ := st.step t₁ o₁
  refine wpAny_Slice (wseq (h2 _ _ _ _ hA st₁) fun v2 s₂ p => ?_)
  obtain ⟨pa, G₂, o₂, t₂⟩ := p
  refine wseq (h3 _ _ _ _ hA (st₁.step t₂ o₂)) fun v3 s₃ p => ?_
  obtain ⟨pb, G₃, o₃, t₃⟩ := p
  refine wpAny_pure ?_
  have t := (t₁.trans t₂).trans t₃
  have n₃ := n₁.step (t₂.trans t₃)
  rw [hy] at n₃
  clear t₁ t₂ t₃ o₁ o₂ n₁ st st₁ h1 h2 h3
  obtain ⟨ad, vs, nn, rfl, e1, e2⟩ := n₃.lst o₃.sub
  have pk : ∀ b o, s₃.heap.get? b = some o → (s₃.heap.push { cls := .type "slice", data := .fields #[v2, v3, .none] }).get? b = some o := fun b o e => Heap.get?_push_of_some _ e
  refine ⟨(isList_of (pk _ _ e1)).typeIs, ?_⟩
  refine wpAny_getItem_list_slice (isList_of (pk _ _ e1)) ⟨_, Heap.get?_push_size _ rfl, rfl, rfl⟩ pa pb .none (by simp) ?_ (by rw [e2.size]; exact lim_size hl)
  exact ((o₃.keep (tk := s₃.toks) pk).madeLst (tk := s₃.toks) (n := 0) (slc_snd e2 u.1 w.1)).trans (t.trans (StepE.of_keep (tk := s₃.toks) pk))

/-! a dict -/
theorem strOf_of {s : Str} : strOf e = some s → ∃ u p, e = .Constant (.str s) u p := by
  cases e
  case Constant c u p =>
    cases c
    case str x => intro h; cases h; exact ⟨u, p, rfl⟩
    all_goals exact fun h => nopO h
  all_goals exact fun h => nopO h
inductive DcP (c : Cx) (κ : Nat) (PE : Env) (vars : Vars) : Nat → List (Option Expr) → List Expr → List Str → List D × Nat → Prop
  | nil (k : Nat) : DcP c κ PE vars k [] [] [] ([], k)
  | cons {k : Nat} {a : Str} {u : Nat} {p : Pos} {ks : List (Option Expr)} {e : Expr} {es : List Expr} {xs : List Str} {x : Bool × D × Nat} {y : List D × Nat} (h : EvP c κ PE vars k e x) (t : DcP c κ PE vars x.2.2 ks es xs y) :
      DcP c κ PE vars k (some (.Constant (.str a) u p) :: ks) (e :: es) (a :: xs) (x.2.1 :: y.1, y.2)
theorem DcP.of {es : List Expr} {r : List D × Nat} (h : Evs c κ PE vars k es r) : ∀ {ks : List (Option Expr)} {xs : List Str}, evKeys ks = some xs → xs.length = es.length → DcP c κ PE vars k ks es xs r := by
  induction h with
  | nil k =>
    intro ks xs h1 h2
    cases ks with
    | nil => cases h1; exact .nil k
    | cons a ks =>
      obtain ⟨y, h3, h1⟩ := Option.bind_eq_some_iff.mp h1
      obtain ⟨w, h4, rfl⟩ := Option.map_eq_some_iff.mp h1
      exact nomatch h2
  | cons h t ih =>
    intro ks xs h1 h2
    cases ks with
    | nil => cases h1; exact nomatch h2
    | cons a ks =>
      obtain ⟨y, h3, h1⟩ := Option.bind_eq_some_iff.mp h1
      obtain ⟨w, h4, rfl⟩ := Option.map_eq_some_iff.mp h1
      obtain ⟨b, rfl, h5⟩ := Option.bind_eq_some_iff.mp h3
      obtain ⟨u, p, rfl⟩ := strOf_of h5
      exact .cons h (ih h4 (Nat.succ.inj h2))
noncomputable def pairsOf (pos : Pos) (env : Env) : List (Option Expr) → List Expr → List (Sem Value × Sem Value)
  | some a :: ks, e :: es => (eval a env, do let x ← eval e env; standAt pos; pure x) :: pairsOf pos env ks es
  | _, _ => []
theorem DcP.shape {ks : List (Option Expr)} {es : List Expr} {xs : List Str} {r : List D × Nat} (pos : Pos) (h : DcP c κ PE vars k ks es xs r) :
    (evalEachOpt ks PE).zip ((evalEach es PE).map fun v => do let x ← v; standAt pos; pure x) = (pairsOf pos PE ks es).map (fun p => (some p.1, p.2)) ∧ (pairsOf pos PE ks es).length = es.length ∧ r.1.length = es.length := by
  induction h with
  | nil k => exact ⟨rfl, rfl, rfl⟩
  | cons h t ih => exact ⟨congrArg (List.cons _) ih.1, congrArg (· + 1) ih.2.1, congrArg (· + 1) ih.2.2⟩
theorem DcP.run {ks : List (Option Expr)} {es : List Expr} {xs : List Str} {r : List D × Nat} (pos : Pos) (h : DcP c κ PE vars k ks es xs r) (hA : AOk κ A) (x : St c PE G s k m vars) {Q : List (Value × Value) → Shared → Prop}
    (g : ∀ vs s₁ G₁ vals, Ok c G₁ s₁ r.2 → StepE c G G₁ s s₁ → Carries (PySem.strKind c.prog c.w) vs (xs.zip vals) → IsL c G₁ vals r.1 → Q vs s₁) : wpAny (Mo c) A (evalPairs (pairsOf pos PE ks es)) Q E s := by
  induction h generalizing G s Q with
  | nil k => exact evalPairs_nil (g _ _ _ [] x.ok (.refl _ _) trivial .nil)
  | cons h t ih =>
    exact evalPairs_cons (wpAny_Constant_str (wpAny_bind (h.use hA (x.toks _) fun v s₁ G₁ o₁ t₁ i₁ => wpAny_bind (wpAny_standAt (wpAny_pure
      (ih (x.step ((StepE.toks _).trans t₁) o₁) fun vs s₂ G₂ vals o₂ t₂ c₂ i₂ => g _ _ _ (v :: vals) o₂ (((StepE.toks _).trans t₁).trans t₂) ⟨strKind_is _ _ _ _, rfl, c₂⟩ (.cons (i₁.mono t₂.le) i₂)))))))
theorem merged_nodup : ∀ (kvs acc : List (Str × Value)), ((acc ++ kvs).map (·.1)).Nodup → merged acc kvs = acc ++ kvs
  | [], acc, _ => by simp [merged]
  | p :: r, acc, h => by
    have e : stored acc p.1 p.2 = acc ++ [p] := by
      unfold stored
      rw [if_neg]
      intro q
      obtain ⟨a, ha, hq⟩ := List.any_eq_true.mp q
      simp only [List.map_append, List.map_cons] at h
      have := (List.nodup_append.mp h).2.2 a.1 (List.mem_map_of_mem (f := (·.1)) ha) p.1 (by simp)
      exact this (by simpa using hq)
    have : merged acc (p :: r) = merged (stored acc p.1 p.2) r := rfl
    rw [this, e, merged_nodup r (acc ++ [p]) (by simpa using h)]
    simp
theorem zip_keys : ∀ {xs : List Str} {vs : List Value}, xs.length = vs.length → (xs.zip vs).map (·.1) = xs
  | [], _, _ => rfl
  | x :: xs, [], h => by cases h
  | x :: xs, v :: vs, h => by simp [zip_keys (xs := xs) (vs := vs) (by simpa using h)]

theorem notSysModules (x : Ok c G s k) : (s.heap.objs.size == sysModules) = false := by
  obtain ⟨o, es, ep, e, _⟩ := x.base.g
  have := Heap.lt_size (x.sub _ _ e)
  have h1 : sysModules ≤ mainGlobals := by decide
  have : s.heap.objs.size ≠ sysModules := by
    intro q
    have a : mainGlobals < s.heap.objs.size := this
    rw [q] at a
    exact absurd a (Nat.not_lt.mpr h1)
  simpa using this


theorem j_dic {ks : List (Option Expr)} {es : List Expr} {xs : List Str} {r : List D × Nat} {pos : Pos} (h : DcP c κ PE vars k ks es xs r) (hl : xs.length = es.length) (hn : xs.Nodup) (hz : es.length ≤ 15) :
    EvP c κ PE vars k (.Dict ks es pos) (true, .dct (xs.zip r.1), r.2) := by
  refine ⟨rfl, fun A G s m hA x => ?_⟩
  have hD := fresh_size s.heap
  have hDf : s.heap.objs.size ≠ c.fa := fun e => x.ok.falive (e ▸ hD)
  have gD : ∀ {G' : Heap} {s' : Shared}, StepE c G G' { s with heap := s.heap.push { cls := .type "dict", data := .dict #[] } } s' → G'.get? s.heap.objs.size = none := fun t => by
    refine t.none (by show (s.heap.push _).get? _ ≠ none; rw [Heap.get?_push_size _ rfl]; exact fun h => nopO h) ?_
    cases q : G.get? s.heap.objs.size with
    | none => rfl
    | some o => rw [x.ok.sub _ _ q] at hD; cases hD
  have pk : ∀ b o, s.heap.get? b = some o → (s.heap.push { cls := .type "dict", data := .dict #[] }).get? b = some o := fun b o e => Heap.get?_push_of_some _ e
  have t₀ : StepE c G G s { s with heap := s.heap.push { cls := .type "dict", data := .dict #[] } } := StepE.of_keep (tk := s.toks) pk
  have o₀ : Ok c G { s with heap := s.heap.push { cls := .type "dict", data := .dict #[] } } k := x.ok.keep (tk := s.toks) pk
  have nS := notSysModules x.ok
  have h' := h
  cases h with
  | nil => exact wpAny_Dict_empty ⟨G, o₀, t₀, Own.dct (gD (.refl _ _)) hDf nS (Heap.DictOf.new _) .nil, fun _ a e => by cases e; exact hD⟩
  | cons h t =>
    obtain ⟨sh, ln, lr⟩ := h'.shape pos
    refine wpAny_Dict_pairs (knd := PySem.strKind c.prog c.w) sh (fun q => nomatch (congrArg List.length q).symm.trans ln) (by rw [ln]; exact hz) (h'.run pos hA (x.step t₀ o₀) fun vs s₁ G₁ vals o₁ t₁ c₁ i₁ => ?_)
    have hv : _ = vals.length := (hl.trans lr.symm).trans i₁.1.symm
    obtain ⟨o, es', ep, e, r⟩ := Heap.DictOf.new (knd := PySem.strKind c.prog c.w) s.heap
    refine ⟨_, c₁, ⟨o, es', ep, t₁.keep _ _ hDf id e, r⟩, fun h' hd' hs' => ?_⟩
    have hk' : ∀ b o, ¬ (b = s.heap.objs.size) → s₁.heap.get? b = some o → h'.get? b = some o := fun b o hb e => hs'.extBut b o hb e
    rw [merged_nodup _ [] (by rw [List.nil_append, zip_keys hv]; exact hn), List.nil_append] at hd'
    exact ⟨G₁, o₁.chg (fun b => b = s.heap.objs.size) hk' (fun b e => by subst e; exact ⟨gD t₁, hDf⟩), (t₀.trans t₁).chg (fun b => b = s.heap.objs.size) hk' (fun b e => by subst e; exact hD) (fun e => hDf e.symm), Own.dct (gD t₁) hDf nS hd' (.zip i₁ (hv.trans i₁.1)), fun _ a e => by cases e; exact hD⟩
end
end Mine

-- G9
namespace Mine

section
variable {c : Cx} {PE : Env} {vars : Vars} {cl : Cl} {f : EvM} {κ : Nat} {A : Around} {G : Heap} {s : Shared} {k : Nat} {m : Str → Option Value} {e : Expr} {E : Value → Shared → Prop}
theorem attrBase_plain {o : Expr} {a : Str} {env : Env} {w : Sem Value} (h : noCall o = true) : attributeBase o a env w = w := by
  cases o <;> first | rfl | cases h
theorem place_noCall {o : Expr} (h : isPlace o = true) : noCall o = true := by
  cases o <;> first | rfl | cases h
theorem Attribute_plain {prog : Program} {w : World} {E : Value → Shared → Prop} {value : Expr} {attr : Str} {pos : Pos} {Q : Value → Shared → Prop} (hn : noCall value = true)
    (h : wpAny (model prog w) A (eval value PE) (fun o s₁ => wpAny (model prog w) A (getAttr o attr true) Q E s₁) E s) :
    wpAny (model prog w) A (eval (.Attribute value attr pos) PE) Q E s :=
  Attribute_any_ h (by rw [arm_eval_Attribute, attrBase_plain hn])

theorem methodCall_any {E : Value → Shared → Prop} {o : Expr} {name : Str} {apos pos : Pos} {args : List Expr} {Q : Value → Shared → Prop} (hn : noCall o = true) (hl : sameLine apos pos = true)
    (ha : ((backTo pos (starEach args PE)).any (·.1)) = false) (hz : args.length < 29)
    (h : wpAny (Mo c) A (eval o PE) (fun ov s₁ => ∀ pl, wpAny (Mo c) A (getMethod ov name pl) (fun fx s₂ => wpAny (Mo c) A (callWith pos fx.1 fx.2 (backTo pos (starEach args PE)) []) Q E s₂) E s₁) E s) :
    wpAny (Mo c) A (eval (.Call (.Attribute o name apos) args [] pos) PE) Q E s := by
  rw [arm_eval_Call, attrBase_plain hn]
  refine wpAny_bind (wpAny_mono h (fun ov s₁ h₁ => ?_) fun _ _ e => e)
  refine wpAny_bind (wpAny_standAt ?_)
  have hform : methodCallForm (args.length + ([] : List Keyword).length) (backTo pos (starEach args PE)) (backToKw pos (keywordEach [] PE)) = true := by
    unfold methodCallForm
    have e1 : (backTo pos (starEach args PE)).all (fun x => !x.1) = true := by
      rw [List.all_eq_not_any_not]
      simp only [Bool.not_not, ha]
      rfl
    rw [e1]
    simp only [Bool.true_and, Bool.and_eq_true, decide_eq_true_eq]
    exact ⟨rfl, by rw [show backToKw pos (keywordEach [] PE) = [] from rfl]; simp; omega⟩
  have hpos : methodCallPos true o PE apos pos = pure pos := by
    unfold methodCallPos
    have : (apos.endLine == pos.line) = true := hl
    simp [this]
  unfold methodCall
  rw [hform]
  refine wpAny_bind (wpAny_holding (wpAny_mono (h₁ _) (fun fx s₂ h₂ => ?_) fun _ _ e => e))
  obtain ⟨f, first⟩ := fx
  exact wpAny_bind (wpAny_of_eq hpos h₂)


theorem len_fit {vs : List Value} {l : List D} (h : IsL c G vs l) (hl : l.length ≤ lim) : (vs.toArray.size : Int) < 2 ^ 63 := by
  rw [h.size]
  unfold lim at hl
  omega
/-- a builtin or a type upon a sequence -/
noncomputable def SqF (c : Cx) (P : Value → Sem Value) (own : Bool) (g : List D → D) : Prop :=
  ∀ (A : Around) (G : Heap) (s : Shared) (k : Nat) (v : Value) (d : D) (l : List D), Ok c G s k → Now c G s.heap v d → (d = .lst l ∨ d = .tup l) → l.length ≤ lim → wpAny (Mo c) A (P v) (PostE c G s k own (g l)) NoE s
theorem sq_len : SqF c (fun v => call (.builtin "len") [v]) false fun l => .int l.length := by
  intro A G s k v d l o hn h hl
  rcases h with rfl | rfl
  · obtain ⟨a, vs, n, rfl, h1, h2⟩ := hn.lst o.sub
    refine call_len_list (isList_of h1) (len_fit h2 hl) ?_
    rw [h2.size]
    exact .tok o _ (.int _ _)
  · obtain ⟨a, vs, n, rfl, h1, h2⟩ := hn.tup o.sub
    refine len_tuple ⟨_, h1, rfl, n, rfl⟩ (len_fit h2 hl) ?_
    rw [h2.size]
    exact .tok o _ (.int _ _)
theorem IsL.fits {vs : List Value} {l : List D} (h : IsL c G vs l) (hl : l.length ≤ lim) : vs.toArray.size ≤ sizeLine := by
  rw [h.size]
  exact lim_size hl
theorem sq_list : SqF c (fun v => call (.type "list") [v]) true .lst := by
  intro A G s k v d l o hn h hl
  rcases h with rfl | rfl
  · obtain ⟨a, vs, n, rfl, h1, h2⟩ := hn.lst o.sub
    exact call_list_seq a (.inl rfl) h1 rfl rfl (fun h' c' hk e => o.newLst (tk := s.toks) hk (fresh_size _) e h2) (h2.fits hl)
  · obtain ⟨a, vs, n, rfl, h1, h2⟩ := hn.tup o.sub
    exact call_list_seq a (.inr rfl) h1 rfl rfl (fun h' c' hk e => o.newLst (tk := s.toks) hk (fresh_size _) e h2) (h2.fits hl)
theorem sq_tuple : SqF c (fun v => call (.type "tuple") [v]) false .tup := by
  intro A G s k v d l o hn h hl
  rcases h with rfl | rfl
  · obtain ⟨a, vs, n, rfl, h1, h2⟩ := hn.lst o.sub
    exact call_tuple_list (isList_of h1) (fun h' hk => ((o.keep (tk := s.toks) hk).madeTup (tk := s.toks) (n := 0) h2).trans (StepE.of_keep hk)) (h2.fits hl)
  · have hi := hn.tupIs
    obtain ⟨a, vs, n, rfl, h1, h2⟩ := hn.tup o.sub
    exact call_tuple_same (isTup_of h1) (.here o hi)
/-- len, list, tuple upon one argument -/
theorem Snd.seq1 (S : Snd c κ PE vars cl f) {own : Bool} {g : List D → D} {P : Value → Sem Value} (hP : SqF c P own g) (k : Nat) (args : List Expr) {R : Bool × D × Nat → Prop}
    (hR : ∀ a r, args = [a] → Plain a = true → (∀ A G s m, AOk κ A → St c PE G s k m vars → wpAny (Mo c) A (eval a PE) (fun v s₁ => wpAny (Mo c) A (P v) (PostE c G s r.2.2 r.1 r.2.1) NoE s₁) NoE s) → R r) :
    Yl cl (seq1 f PE.scope.names vars k args fun l => (own, g l)) R := by
  cases args with
  | nil => exact .fail
  | cons a r =>
    exact .gd fun h => by
      cases r with
      | cons _ _ => exact nopB <| h
      | nil => exact .bind (S.t k a) fun x h => .bind .asL fun l q => .ask fun hl => .ret (hR a _ rfl h.pl fun A G s m hA st => h.use hA st fun v s₁ G₁ o₁ t₁ n₁ => wseq (hP A G₁ s₁ _ v _ l o₁ n₁ q (dec hl)) fun v s₂ q => q.trans t₁)

/-! one law for each construct -/
theorem j_con (cn : Const) (u : Nat) (p : Pos) : Yl cl (conM k cn) (EvP c κ PE vars k (.Constant cn u p)) := by
  cases cn
  case none => exact .ret ⟨rfl, fun A G s m hA x => wpAny_Constant_none (.here x.ok .none)⟩
  case bool b => exact .ret ⟨rfl, fun A G s m hA x => wpAny_Constant_bool (.here x.ok (.bool _))⟩
  case int i => exact .ret ⟨rfl, fun A G s m hA x => wpAny_Constant_int (.tok x.ok _ (.int _ _))⟩
  case str i => exact .ret ⟨rfl, fun A G s m hA x => wpAny_Constant_str (.tok x.ok _ (.str _ _))⟩
  all_goals exact .fail
theorem j_rd {n : Str} {p : Pos} (hl : isLoc PE.scope.names n = true) : Yl cl (rdM k (vars.lookup n)) (EvP c κ PE vars k (.Name n p)) := by
  cases h : vars.lookup n with
  | none => exact .fail
  | some q =>
    obtain ⟨o, d⟩ := q
    cases o
    · exact .ret ⟨rfl, fun A G s m hA x => by
        obtain ⟨v, hm, hr⟩ := x.val _ _ _ h
        exact x.fr.load hl hm (.here x.ok hr)⟩
    · exact .fail
theorem j_glob {n : Str} {p : Pos} {d : D} (T : TbOk c) (hg : isGlob PE.scope.names n = true) (h : c.tb.glob.lookup n = some d) : EvP c κ PE vars k (.Name n p) (false, d, k) :=
  ⟨rfl, fun A G s m hA x => by
    obtain ⟨v, hm, hi⟩ := T.glob _ _ h
    exact x.glob hg hm (.here x.ok (hi _ x.ok.base.K))⟩
theorem j_tup {es : List Expr} {u : Nat} {p : Pos} {r : List D × Nat} (hz : es.length ≤ lim) (h : Evs c κ PE vars k es r) : EvP c κ PE vars k (.Tuple es u p) (false, .tup r.1, r.2) :=
  ⟨rfl, fun A G s m hA x => wpAny_Tuple (h.use _ hA x fun vs s₁ G₁ o₁ t₁ i₁ => ⟨i₁.fits (h.len ▸ hz), (o₁.madeTup (tk := s₁.toks) (n := 0) i₁).trans t₁⟩)⟩
theorem j_lst {es : List Expr} {p : Pos} {r : List D × Nat} (hz : es.length ≤ lim) (h : Evs c κ PE vars k es r) : EvP c κ PE vars k (.List es p) (true, .lst r.1, r.2) :=
  ⟨rfl, fun A G s m hA x => wpAny_List (h.use _ hA x fun vs s₁ G₁ o₁ t₁ i₁ => ⟨i₁.fits (h.len ▸ hz), (o₁.madeLst (tk := s₁.toks) (n := 0) i₁).trans t₁⟩)⟩
theorem j_bin {l r : Expr} {op : Operator} {p : Pos} {x y : D × Nat} {z : Bool × D} (h1 : TpP c κ PE vars k l x) (h2 : TpP c κ PE vars x.2 r y) (h3 : BinP c op x.1 y.1 z) : EvP c κ PE vars k (.BinOp l op r p) (z.1, z.2, y.2) :=
  ⟨rfl, fun A G s m hA st => wpAny_BinOp (h1.use hA st fun v s₁ G₁ o₁ t₁ n₁ => h2.use hA (st.step t₁ o₁) fun u s₂ G₂ o₂ t₂ n₂ => wseq (h3 _ _ _ _ _ _ o₂ (n₁.step t₂) n₂) fun v s₃ q => q.trans (t₁.trans t₂))⟩
theorem j_not {a : Expr} {p : Pos} {y : Bool × Nat} (h : BvP c κ PE vars k a y) : EvP c κ PE vars k (.UnaryOp .Not a p) (false, .bool (!y.1), y.2) :=
  ⟨rfl, fun A G s m hA st => wpAny_UnaryOp (h.use hA st fun s₁ G₁ o₁ t₁ => not_value (wpAny_truthy_bool (.mk' o₁ t₁ (.bool _))))⟩
theorem EvP.useI {r : Bool × D × Nat} {i : Int} (h : EvP c κ PE vars k e r) (hi : r.2.1 = .int i) (hA : AOk κ A) (x : St c PE G s k m vars) {Q : Value → Shared → Prop} (g : ∀ t s₁ G₁, Ok c G₁ s₁ r.2.2 → StepE c G G₁ s s₁ → Q (.int i t) s₁) :
    wpAny (Mo c) A (eval e PE) Q E s := h.use hA x fun v s₁ G₁ o t q => by
  rw [hi] at q
  cases q
  exact g _ s₁ G₁ o t
theorem j_inv {a : Expr} {p : Pos} {y : Bool × D × Nat} {i : Int} (h : EvP c κ PE vars k a y) (hi : y.2.1 = .int i) : EvP c κ PE vars k (.UnaryOp .Invert a p) (false, .int (Builtin.bitNot i), y.2.2) :=
  ⟨rfl, fun A G s m hA st => wpAny_UnaryOp (h.useI hi hA st fun t s₁ G₁ o₁ t₁ => invert_int ((PostE.tok o₁ _ (.int _ _)).trans t₁))⟩
theorem j_neg {a : Expr} {p : Pos} {y : Bool × D × Nat} {i : Int} (h : EvP c κ PE vars k a y) (hi : y.2.1 = .int i) : EvP c κ PE vars k (.UnaryOp .USub a p) (false, .int (-i), y.2.2) :=
  ⟨rfl, fun A G s m hA st => wpAny_UnaryOp (h.useI hi hA st fun t s₁ G₁ o₁ t₁ => PyProof.Rows.neg_int ((PostE.tok o₁ _ (.int _ _)).trans t₁))⟩
theorem j_ife {t a b : Expr} {p : Pos} {y : Bool × Nat} {r : Bool × D × Nat} (h : TrP c κ PE vars k t y) (g : EvP c κ PE vars y.2 (if y.1 = true then a else b) r) : EvP c κ PE vars k (.IfExp t a b p) r :=
  ⟨rfl, fun A G s m hA st => wpAny_IfExp (h.use hA st fun s₁ G₁ o₁ t₁ => by
    have := wseq (E := NoE) (g.run A G₁ s₁ m hA (st.step t₁ o₁)) fun v s₂ q => q.trans t₁
    obtain ⟨b, k'⟩ := y
    cases b <;> exact this)⟩
theorem j_cmp {l r : Expr} {op : CmpOp} {p : Pos} {x y : D × Nat} {z : Bool} (hb : (!behindInMarks op r) = true) (h1 : TpP c κ PE vars k l x) (h2 : TpP c κ PE vars x.2 r y) (h3 : CmpP c op x.1 y.1 z) : EvP c κ PE vars k (.Compare l [op] [r] p) (false, .bool z, y.2) :=
  ⟨rfl, fun A G s m hA st => wpAny_Compare1 (h1.use hA st fun v s₁ G₁ o₁ t₁ n₁ => h2.use hA (st.step t₁ o₁) fun u s₂ G₂ o₂ t₂ n₂ => h3 _ _ _ _ _ _ _ _ hA.lt o₂ (n₁.step t₂) n₂ fun tk => (PostE.tok o₂ _ (.bool _)).trans (t₁.trans t₂)) (by simpa using hb)⟩
theorem t_cmp {l r : Expr} {op : CmpOp} {p : Pos} {x y : D × Nat} {z : Bool} (hb : (!behindInMarks op r) = true) (h1 : TpP c κ PE vars k l x) (h2 : TpP c κ PE vars x.2 r y) (h3 : CmpP c op x.1 y.1 z) : TrP c κ PE vars k (.Compare l [op] [r] p) (z, y.2) :=
  fun A G s m hA st => wpAny_isTrue_Compare1 (h1.use hA st fun v s₁ G₁ o₁ t₁ n₁ => h2.use hA (st.step t₁ o₁) fun u s₂ G₂ o₂ t₂ n₂ => h3 _ _ _ _ _ _ _ _ hA.lt o₂ (n₁.step t₂) n₂ fun tk => wpAny_truthy_bool ⟨rfl, G₂, o₂.toks, (t₁.trans t₂).trans (.toks tk)⟩) (by simpa using hb)
theorem j_sub {v i : Expr} {p : Pos} {x : D × Nat} {y : Bool × D × Nat} {z : D} (h1 : TpP c κ PE vars k v x) (h2 : EvP c κ PE vars x.2 i y) (h3 : SubP c y.2.2 x.1 y.2.1 z) : EvP c κ PE vars k (.Subscript v i p) (false, z, y.2.2) :=
  ⟨rfl, fun A G s m hA st => Subscript_ (h1.use hA st fun v s₁ G₁ o₁ t₁ n₁ => h2.use hA (st.step t₁ o₁) fun u s₂ G₂ o₂ t₂ n₂ => wseq (h3 _ _ _ _ _ _ _ o₂ (n₁.step t₂) (.inl n₂)) fun v s₃ q => q.trans (t₁.trans t₂))⟩
theorem j_att {v : Expr} {a : Str} {p : Pos} {x : Bool × D × Nat} {q : Addr × List (Str × D)} {r : D} (T : TbOk c) (hn : noCall v = true) (h : EvP c κ PE vars k v x) (hq : x.2.1 = .obj q.1 q.2) (ht : c.tb.attr q.1 a = true) (hr : q.2.lookup a = some r) :
    EvP c κ PE vars k (.Attribute v a p) (false, r, x.2.2) :=
  ⟨rfl, fun A G s m hA st => Attribute_plain hn (h.use hA st fun v s₁ G₁ o₁ t₁ i₁ => wseq (attr_snd T o₁ (hq ▸ i₁) ht hr) fun v s₂ q => q.trans t₁)⟩
theorem j_com {elt iter : Expr} {x : Str} {px pos : Pos} {ifs : List Expr} {scope : Scope} {y z : List D × Nat} (hso : scopeOk PE.scope.names x scope = true) (h : SrP c κ PE vars k iter y) (hl : y.1.length ≤ lim)
    (g : ∀ PE' : Env, PE'.scope.names = relab PE.scope.names scope.names → CmP c κ PE' x vars ifs elt y.2 y.1 z) : EvP c κ PE vars k (.ListComp elt [⟨.Name x px, iter, ifs, 0⟩] scope pos) (true, .lst z.1, z.2) :=
  ⟨rfl, fun A G s m hA st => comp_snd hso st hA (noSetE h.pl) hl (h.run A G s m hA st) g⟩
theorem j_cal {fn : Str} {p q : Pos} {args : List Expr} {x : List D × Nat} {y : D × Nat} (T : TbOk c) (H : GoodCl c κ cl) (hg : isGlob PE.scope.names fn = true) (hf : c.tb.fns.contains fn = true) (h : Evs c κ PE vars k args x) (hy : cl fn x.1 x.2 = some y) :
    EvP c κ PE vars k (.Call (.Name fn p) args [] q) (false, y.1, y.2) :=
  ⟨rfl, fun A G s m hA st => Call_ (st.glob hg (T.fn _ hf).1 (h.callWith _ hA st (T.fn _ hf).2 .nil (H _ _ _ y.1 y.2 hy)))⟩
theorem j_mth {o : Expr} {mt : Str} {ap cp : Pos} {args : List Expr} {x : Bool × D × Nat} {q : Addr × List (Str × D)} {key : Str} {y : List D × Nat} {z : D × Nat} (T : TbOk c) (H : GoodCl c κ cl) (hp : isPlace o = true) (hl : sameLine ap cp = true) (hz : args.length < 29)
    (h : EvP c κ PE vars k o x) (hq : x.2.1 = .obj q.1 q.2) (hk : c.tb.meth q.1 mt = some key) (hn : q.2.lookup mt = none) (g : Evs c κ PE vars x.2.2 args y) (hy : cl key (.obj q.1 q.2 :: y.1) y.2 = some z) :
    EvP c κ PE vars k (.Call (.Attribute o mt ap) args [] cp) (false, z.1, z.2) :=
  ⟨rfl, fun A G s m hA st => methodCall_any (place_noCall hp) hl (g.noStar _) hz (h.use hA st fun v s₁ G₁ o₁ t₁ i₁ => fun pl =>
    meth_snd T o₁ (hq ▸ i₁) hk hn (wseq (g.callWith _ hA (st.step t₁ o₁) (T.meth _ _ _ hk).2.2.2 (.cons (hq ▸ i₁) .nil) (H _ _ _ z.1 z.2 hy)) fun v s₂ q => q.trans t₁))⟩
theorem lnone {o : Option D} (h : o.isNone = true) : o = none := Option.isNone_iff_eq_none.mp h

theorem evV_snd {n : Nat} (T : TbOk c) (H : GoodCl c κ cl) (S : ∀ PE vars, Snd c κ PE vars cl (evE c.tb n PE.scope.names vars)) (v : EV e) : Yl cl (evV c.tb (evE c.tb n) PE.scope.names vars k v) (EvP c κ PE vars k e) := by
  have F := S PE vars
  cases v with
  | con cn u p => exact j_con cn u p
  | nam n p => exact .cond (fun h => j_rd h) fun _ => .gd fun hg => .bind (.lift fun d h => h) fun d h => .ret (j_glob T hg h)
  | tup es u p => exact .gd fun hz => .bind (F.l es k) fun x h => .ret (j_tup (dec hz) h)
  | lst es p => exact .gd fun hz => .bind (F.l es k) fun x h => .ret (j_lst (dec hz) h)
  | dic ks es p => exact .bind (.lift fun xs h => h) fun xs hx => .gd fun hz => .bind (F.l es k) fun x h => .ret (j_dic (.of h hx (dec hz).1) (dec hz).1 (dec hz).2.1 (dec hz).2.2)
  | bin l op r p => exact .bind (F.t k l) fun x h1 => .bind (F.t x.2 r) fun y h2 => .bind (bin_snd op x.1 y.1) fun z h3 => .ret (j_bin h1 h2 h3)
  | una op a p =>
    cases op
    case Not => exact .bind (F.b k a) fun y h => .ret (j_not h)
    case Invert => exact .bind (F.ev k a) fun y h => .bind .asI fun i q => .ret (j_inv h q)
    case USub => exact .bind (F.ev k a) fun y h => .bind .asI fun i q => .ret (j_neg h q)
    case UAdd => exact .fail
  | boo op es p => exact .bind (F.bv p es k) fun x h => .ret h
  | ife t a b p => exact .bind (F.tr k t) fun x h => .test (fun q => (F.ev x.2 a).mono fun r g => j_ife h (if_pos q ▸ g)) fun q => (F.ev x.2 b).mono fun r g => j_ife h (by rw [q]; exact g)
  | cmp l op r p => exact .gd fun hb => .bind (F.t k l) fun x h1 => .bind (F.t x.2 r) fun y h2 => .opt fun z q => .ret (omap (P := fun z => EvP c κ PE vars k (.Compare l [op] [r] p) (false, z, y.2)) q fun b e => j_cmp hb h1 h2 (cmp_snd e))
  | slc x a lo hi p q => exact .bind (F.t k _) fun y h1 => .bind (F.opt y.2 lo) fun u h2 => .bind (F.opt u.2 hi) fun w h3 => .bind .asLst fun l e => .ask fun hl => .ret (j_slc h1 h2 h3 e (dec hl))
  | sub v i p => exact .bind (F.t k v) fun x h1 => .bind (F.ev x.2 i) fun y h2 => .part fun z e => .ret (j_sub h1 h2 (subF_snd T e))
  | att v a p => exact .gd fun hn => .bind (F.ev k v) fun x h => .gd fun _ => .bind .asObj fun q hq => .gd fun ht => .part fun r hr => .ret (j_att T hn h hq ht hr)
  | com elt x px iter ifs scope pos => exact .gd fun hso => .bind (F.src T k iter) fun y h => .ask fun hz => .sub fun z e => .ret (j_com hso h (dec hz) fun PE' hPE => comp_turns (fun d => hPE ▸ S PE' _) ifs elt y.1 y.2 z e)
  | cal fn p args q =>
    exact .gd fun hg => .cond (fun hf => F.seq1 sq_len k args fun a r e pl h => by cases eq_of_beq hf; subst e; exact ⟨rfl, fun A G s m hA st => Call_ (st.bltn hg T.len.1 T.len.2 (callBuiltin1 pl (h A G s m hA st)))⟩) fun _ =>
      .cond (fun hf => F.seq1 sq_list k args fun a r e pl h => by cases eq_of_beq hf; subst e; exact ⟨rfl, fun A G s m hA st => Call_ (st.bltn hg T.list.1 T.list.2 (callType1 pl (h A G s m hA st)))⟩) fun _ =>
      .cond (fun hf => F.seq1 sq_tuple k args fun a r e pl h => by cases eq_of_beq hf; subst e; exact ⟨rfl, fun A G s m hA st => Call_ (st.bltn hg T.tuple.1 T.tuple.2 (callType1 pl (h A G s m hA st)))⟩) fun _ =>
      .gd fun hf => .bind (F.l args k) fun x h => .call fun y hy => .ret (j_cal T H hg hf h hy)
  | mth o mt ap args cp => exact .gd fun hc => .bind (F.ev k o) fun x h => .bind .asObj fun q hq => .bind (.lift fun key hk => hk) fun key hk => .ask fun hn => .bind (F.l args x.2.2) fun y g => .call fun z hz => .ret (j_mth T H (and3 hc).1 (and3 hc).2.1 (dec (and3 hc).2.2) h hq hk (lnone hn) g hz)
  | bad e => exact .fail

/-- as a test -/
theorem tr_gen {w : M (Bool × D × Nat)} (h : Yl cl w (EvP c κ PE vars k e)) (he : isTrue e PE (eval e PE) = (do let v ← eval e PE; standAt e.pos; holding [v] (truthy v))) :
    Yl cl (w.bind fun x => (asB x.2.1).bind fun b => .ret (b, x.2.2)) (TrP c κ PE vars k e) := .bind h fun x hx => .bind .asB fun b hb => .ret (hx.truth hb he)
/-- what a truth was made of -/
theorem tr_of {w : M (Bool × D × Nat)} {P : Bool × Nat → Prop} (h : Yl cl w fun x => ∀ b, x.2.1 = .bool b → P (b, x.2.2)) : Yl cl (w.bind fun x => (asB x.2.1).bind fun b => .ret (b, x.2.2)) P := .bind h fun x hx => .bind .asB fun b hb => .ret (hx b hb)
theorem Snd.trB (S : Snd c κ PE vars cl f) (k : Nat) (e : Expr) : Yl cl (f k e) fun x => ∀ b, x.2.1 = .bool b → TrP c κ PE vars k e (b, x.2.2) := fun x hx b hb => S.tr k e (b, x.2.2) (by
  show ((f k e).bind _).run cl = _
  exact run_bindB hx (by rw [hb]; rfl))
theorem t_ife {t a b : Expr} {p : Pos} {y r : Bool × Nat} (h : TrP c κ PE vars k t y) (g : TrP c κ PE vars y.2 (if y.1 = true then a else b) r) : TrP c κ PE vars k (.IfExp t a b p) r :=
  fun A G s m hA st => isTrue_IfExp (h.use hA st fun s₁ G₁ o₁ t₁ => by
    have := wseq (E := NoE) (g A G₁ s₁ m hA (st.step t₁ o₁)) fun v s₂ q => q.trans t₁
    obtain ⟨b, k'⟩ := y
    cases b <;> exact this)
theorem evV_tr {n : Nat} (T : TbOk c) (H : GoodCl c κ cl) (S : ∀ PE vars, Snd c κ PE vars cl (evE c.tb n PE.scope.names vars)) (v : EV e) :
    Yl cl ((evV c.tb (evE c.tb n) PE.scope.names vars k v).bind fun x => (asB x.2.1).bind fun b => .ret (b, x.2.2)) (TrP c κ PE vars k e) := by
  have F := S PE vars
  cases v with
  | una op a p =>
    cases op
    case Not => exact tr_of (.bind (F.tr k a) fun y h => .ret fun b hb => by cases hb; exact fun A G s m hA st => wpAny_isTrue_Not (h.use hA st fun s₁ G₁ o₁ t₁ => ⟨rfl, G₁, o₁, t₁⟩))
    all_goals exact tr_gen (evV_snd T H S _) rfl
  | boo op es p => exact tr_of (.bind (F.bs es k) fun x h => .ret fun b hb => by cases hb; exact fun A G s m hA st => wpAny_isTrue_BoolOp (h A G s m hA st))
  | ife t a b p => exact tr_of (.bind (F.tr k t) fun x h => .test (fun q => (F.trB x.2 a).mono fun r g d hd => t_ife h (if_pos q ▸ g d hd)) fun q => (F.trB x.2 b).mono fun r g d hd => t_ife h (by rw [q]; exact g d hd))
  | cmp l op r p => exact tr_of (.gd fun hb => .bind (F.t k l) fun x h1 => .bind (F.t x.2 r) fun y h2 => .opt fun z q => .ret (omap (P := fun z => ∀ b, z = .bool b → TrP c κ PE vars k (.Compare l [op] [r] p) (b, y.2)) q fun b e d hd => by cases hd; exact t_cmp hb h1 h2 (cmp_snd e)))
  | bad e => exact tr_of .fail
  | _ => exact tr_gen (evV_snd T H S _) rfl
theorem evE_snd (T : TbOk c) (H : GoodCl c κ cl) : ∀ n PE vars, Snd c κ PE vars cl (evE c.tb n PE.scope.names vars)
  | 0, PE, vars => ⟨fun k e => .fail, fun k e => .fail⟩
  | n + 1, PE, vars => ⟨fun k e => evV_snd T H (evE_snd T H n) (viewE e), fun k e => evV_tr T H (evE_snd T H n) (viewE e)⟩
end
end Mine

-- G10
namespace Mine

noncomputable def OwnA (m : Str → Option Value) (vars : Vars) (a : Addr) : Prop := ∃ x d, vars.lookup x = some (true, d) ∧ m x = some (.ref a)
noncomputable def HotS (PE : Env) (m : Str → Option Value) (vars : Vars) (a : Addr) : Prop := FHot PE a ∨ OwnA m vars a

structure Go (c : Cx) (PE : Env) (G G' : Heap) (s s' : Shared) (m m' : Str → Option Value) (vars vars' : Vars) : Prop where
  step : Step c G G' s s' (HotS PE m vars)
  own : ∀ a, OwnA m' vars' a → OwnA m vars a ∨ s.heap.get? a = none

inductive FlowIs (c : Cx) (G : Heap) : Fl → Flow → Prop
  | nxt : FlowIs c G .nxt .next
  | cont : FlowIs c G .cont .cont
  | ret {d : D} {v : Value} : Is c G v d → FlowIs c G (.ret d) (.ret v)

inductive PostS (c : Cx) (PE : Env) (G : Heap) (s : Shared) (m : Str → Option Value) (vars : Vars) (fl : Fl) (vars' : Vars) (k' : Nat) (f : Flow) (s' : Shared) : Prop
  | mk (G' : Heap) (m' : Str → Option Value) (h1 : St c PE G' s' k' m' vars') (h2 : Go c PE G G' s s' m m' vars vars') (h3 : FlowIs c G' fl f) : PostS c PE G s m vars fl vars' k' f s'

section
variable {c : Cx} {PE : Env} {G G' G'' : Heap} {s s' s'' : Shared} {k k' : Nat} {m m' m'' : Str → Option Value} {vars vars' vars'' : Vars} {fl : Fl} {f : Flow}

theorem FlowIs.mono (x : FlowIs c G fl f) (h : Sub G G') : FlowIs c G' fl f := by
  cases x with
  | nxt => exact .nxt
  | cont => exact .cont
  | ret i => exact .ret (i.mono h)
theorem Go.trans (x : Go c PE G G' s s' m m' vars vars') (y : Go c PE G' G'' s' s'' m' m'' vars' vars'') : Go c PE G G'' s s'' m m'' vars vars'' := by
  refine ⟨⟨x.step.le.trans y.step.le, fun a o e => ?_, fun a o h1 h2 e => ?_, fun a e => y.step.live a (x.step.live a e), y.step.gens.trans x.step.gens, y.step.drawn.trans x.step.drawn, y.step.os.trans x.step.os⟩, fun a h => ?_⟩
  · rcases y.step.new a o e with e | e | e
    · exact x.step.new a o e
    · right; left
      cases q : s.heap.get? a with
      | none => rfl
      | some o' => exact absurd e (x.step.live a (by simp [q]))
    · rcases e with e | e
      · exact .inr (.inr (.inl e))
      · rcases x.own a e with e | e
        · exact .inr (.inr (.inr e))
        · exact .inr (.inl e)
  · refine y.step.keep a o h1 (fun q => ?_) (x.step.keep a o h1 h2 e)
    rcases q with q | q
    · exact h2 (.inl q)
    · rcases x.own a q with q | q
      · exact h2 (.inr q)
      · rw [q] at e; cases e
  · rcases y.own a h with h | h
    · exact x.own a h
    · right
      cases q : s.heap.get? a with
      | none => rfl
      | some o' => exact absurd h (x.step.live a (by simp [q]))
theorem Go.ofE (t : StepE c G G' s s') : Go c PE G G' s s' m m vars vars :=
  ⟨⟨t.le, fun a o e => (t.new a o e).imp id fun e => e.imp id fun e => e.elim, fun a o h1 h2 e => t.keep a o h1 id e, t.live, t.gens, t.drawn, t.os⟩, fun a h => .inl h⟩
theorem PostS.trans (t : Go c PE G G' s s' m m' vars vars') (x : PostS c PE G' s' m' vars' fl vars'' k f s'') : PostS c PE G s m vars fl vars'' k f s'' := by
  obtain ⟨G₂, m₂, h1, h2, h3⟩ := x
  exact ⟨G₂, m₂, h1, t.trans h2, h3⟩

/-! freezing names -/
noncomputable def freezeBy (p : Str → Bool) (vs : Vars) : Vars := vs.map fun q => (q.1, q.2.1 && !p q.1, q.2.2)
theorem freezeBy_lookup (p : Str → Bool) : ∀ (vs : Vars) (x : Str), (freezeBy p vs).lookup x = (vs.lookup x).map fun q => (q.1 && !p x, q.2)
  | [], x => rfl
  | (y, o, d) :: r, x => by
    show List.lookup x ((y, o && !p y, d) :: freezeBy p r) = _
    rw [List.lookup_cons, List.lookup_cons]
    by_cases h : x = y
    · subst h
      rw [beq_self_eq_true]
      rfl
    · rw [beq_false_of_ne h]
      exact freezeBy_lookup p r x
theorem freezeAll_by (vs : Vars) : freezeAll vs = freezeBy (fun _ => true) vs := List.map_congr_left fun q _ => by rw [Bool.not_true, Bool.and_false]
theorem freezeNames_by (xs : List Str) (vs : Vars) : freezeNames xs vs = freezeBy (fun x => xs.contains x) vs := rfl

theorem St.freeze (x : St c PE G s k m vars) (p : Str → Bool) : ∃ G', St c PE G' s k m (freezeBy p vars) ∧ Go c PE G G' s s m m vars (freezeBy p vars) := by
  let P : Addr → Prop := fun a => ∃ y d, vars.lookup y = some (true, d) ∧ p y = true ∧ m y = some (.ref a)
  obtain ⟨G', g1, g2, g3, g4⟩ := exists_frzP x.ok.sub P
  have ownOf : ∀ y d a, vars.lookup y = some (true, d) → m y = some (.ref a) → Own c G s.heap (.ref a) d := fun y d a h1 h2 => by
    obtain ⟨v, hv, hr⟩ := x.val _ _ _ h1
    rw [h2] at hv; cases hv
    exact hr
  have lk : ∀ y o d, (freezeBy p vars).lookup y = some (o, d) → ∃ o', vars.lookup y = some (o', d) ∧ o = (o' && !p y) := fun y o d h => by
    rw [freezeBy_lookup, Option.map_eq_some_iff] at h
    obtain ⟨⟨o', d'⟩, h1, h2⟩ := h
    cases h2
    exact ⟨o', h1, rfl⟩
  have lkt : ∀ y d, (freezeBy p vars).lookup y = some (true, d) → vars.lookup y = some (true, d) ∧ p y = false := fun y d h => by
    obtain ⟨o', h1, h2⟩ := lk y true d h
    cases o' <;> simp at h2
    exact ⟨h1, h2⟩
  have fa : G'.get? c.fa = none := by
    cases q : G'.get? c.fa with
    | none => rfl
    | some o =>
      rcases g4 _ _ q with ⟨y, d, h1, h2, h3⟩ | e
      · exact absurd rfl (ownOf y d _ h1 h3).nofa
      · rw [x.ok.nofa] at e; cases e
  refine ⟨G', ⟨⟨g2, x.ok.base.mono g1, fa, x.ok.feed⟩, x.fr, fun a h => ⟨?_, (x.hotG a h).2⟩, fun y o d h => ?_, fun y z d d' a h1 h2 h3 h4 => x.sep y z d d' a (lkt _ _ h1).1 (lkt _ _ h2).1 h3 h4, fun y d a h1 h2 => x.hot y d a (lkt _ _ h1).1 h2⟩,
    ⟨⟨g1, fun a o e => ?_, fun _ _ _ _ e => e, fun _ e => e, rfl, rfl, rfl⟩, fun a h => ?_⟩⟩
  · cases q : G'.get? a with
    | none => rfl
    | some o =>
      rcases g4 _ _ q with ⟨y, d, h1, h2, h3⟩ | e
      · exact absurd h (x.hot y d a h1 h3)
      · rw [(x.hotG a h).1] at e; cases e
  · obtain ⟨o', h1, rfl⟩ := lk y o d h
    obtain ⟨v, hv, hr⟩ := x.val _ _ _ h1
    refine ⟨v, hv, ?_⟩
    cases o' with
    | false => exact Is.mono hr g1
    | true =>
      have hr : Own c G s.heap v d := hr
      obtain ⟨a, rfl, ha, hf, hg⟩ := hr.live
      cases hp : p y with
      | true =>
        show Is c G' (.ref a) d
        have hP : P a := ⟨y, d, h1, hp, hv⟩
        cases hr with
        | lst k1 k2 k3 k4 => exact .lst (g3 _ _ hP k3) k4.1 (k4.mono g1).2
        | dct k1 k2 k0 k3 k4 =>
          obtain ⟨o', es, ep, e, r⟩ := k3
          exact .dct k0 ⟨o', es, ep, g3 _ _ hP e, r⟩ k4.1 (k4.mono g1).2
      | false =>
        show Own c G' s.heap (.ref a) d
        refine hr.mono g1 (fun b e hb => ?_) fun _ _ _ _ e => e
        cases e
        cases q : G'.get? a with
        | none => rfl
        | some o =>
          rcases g4 _ _ q with ⟨z, d', h2, h3, h4⟩ | e
          · have := x.sep y z d d' a h1 h2 hv h4
            subst this
            rw [h3] at hp; cases hp
          · rw [hb] at e; cases e
  · rcases g4 a o e with ⟨y, d, h1, h2, h3⟩ | e
    · exact .inr (.inr (.inr ⟨y, d, h1, h3⟩))
    · exact .inl e
  · obtain ⟨y, d, h1, h2⟩ := h
    exact .inl ⟨y, d, (lkt _ _ h1).1, h2⟩

/-! a name is stored -/
noncomputable def CInj (PE : Env) : Prop := ∀ x y a, PE.kindOf x = some .cell → PE.kindOf y = some .cell → PE.cells.lookup x = some a → PE.cells.lookup y = some a → x = y

theorem vset_lookup (x : Str) (o : Bool) (d : D) : ∀ (vs : Vars) (z : Str), (vset x o d vs).lookup z = if z = x then some (o, d) else vs.lookup z
  | [], z => by
    show List.lookup z [(x, o, d)] = _
    rw [List.lookup_cons]
    by_cases h : z = x
    · subst h
      rw [beq_self_eq_true, if_pos rfl]
    · rw [beq_false_of_ne h, if_neg h]
  | (y, p) :: r, z => by
    unfold vset
    rw [List.lookup_cons (as := r)]
    by_cases hy : y = x
    · rw [if_pos hy, List.lookup_cons]
      subst hy
      by_cases h : z = y
      · subst h
        rw [beq_self_eq_true, if_pos rfl]
      · rw [beq_false_of_ne h, if_neg h]
    · rw [if_neg hy, List.lookup_cons]
      by_cases h : z = y
      · subst h
        rw [beq_self_eq_true, if_neg hy]
      · rw [beq_false_of_ne h]
        exact vset_lookup x o d r z

/-- what may be told of a value that is to be stored -/
noncomputable def Free (PE : Env) (m : Str → Option Value) (vars : Vars) (o : Bool) (x : Str) (v : Value) : Prop :=
  o = true → ∀ a, v = .ref a → ¬ FHot PE a ∧ ∀ z d, z ≠ x → vars.lookup z = some (true, d) → m z ≠ some (.ref a)

theorem Heap_cell_ne {h : Heap} {a b : Addr} {v : Option Value} {ml : Str → Option Value} (h1 : h.IsCell a v) (h2 : h.Ns b ml) : a ≠ b := by
  rintro rfl
  obtain ⟨o, e, r⟩ := h1
  obtain ⟨o', es, ep, e', q⟩ := h2
  rw [e] at e'
  cases e'
  have := q.1
  rw [r] at this
  cases this

theorem vs_any {vs : Vars} {x z : Str} {o o' : Bool} {d e : D} (h : (vset x o d vs).lookup z = some (o', e)) : (z = x ∧ o' = o ∧ e = d) ∨ (z ≠ x ∧ vs.lookup z = some (o', e)) := by
  rw [vset_lookup] at h
  by_cases q : z = x
  · rw [if_pos q] at h
    cases h
    exact .inl ⟨q, rfl, rfl⟩
  · rw [if_neg q] at h
    exact .inr ⟨q, h⟩
theorem St.stored {G₀ : Heap} {s₀ : Shared} {m₀ : Str → Option Value} {vars₀ : Vars} (x : St c PE G s k m vars) {y : Str} {o : Bool} {d : D} {v : Value}
    (hv : VR c G s.heap o v d) (hf : Free PE m vars o y v) (t : Go c PE G₀ G s₀ s m₀ m vars₀ vars) (hn : o = true → ∀ a, v = .ref a → OwnA m₀ vars₀ a ∨ s₀.heap.get? a = none)
    {b : Addr} {h' : Heap} {tk : Nat} (hb : FHot PE b) (hk' : ∀ z ob, z ≠ b → s.heap.get? z = some ob → h'.get? z = some ob) (hbl : h'.get? b ≠ none) (hF : Fram PE h' (upd y v m)) :
    St c PE G { s with heap := h', toks := tk } k (upd y v m) (vset y o d vars) ∧ Go c PE G₀ G s₀ { s with heap := h', toks := tk } m₀ (upd y v m) vars₀ (vset y o d vars) := by
  have keepVR : ∀ {oz dz vz}, VR c G s.heap oz vz dz → (oz = true → ∀ a, vz = .ref a → a ≠ b) → VR c G h' oz vz dz := fun {oz dz vz} h3 hne => by
    cases oz with
    | false => exact h3
    | true => exact Own.mono (h := s.heap) h3 Sub.rfl' (fun _ _ e => e) fun a ob ha hfa e => hk' a ob (hne rfl a ha) e
  refine ⟨⟨x.ok.chg (fun a => a = b) hk' fun a e => e ▸ x.hotG b hb, hF, x.hotG, fun z oz dz h1 => ?_, fun z z' dz dz' a h1 h2 h3 h4 => ?_, fun z dz a h1 h2 => ?_⟩,
    ⟨t.step.le, t.step.new, fun a ob h1 h2 e => hk' a ob (fun q => h2 (.inl (q ▸ hb))) (t.step.keep a ob h1 h2 e), fun a e => ?_, t.step.gens, t.step.drawn, t.step.os⟩, fun a h => ?_⟩
  · rcases vs_any h1 with ⟨rfl, rfl, rfl⟩ | ⟨hz, h1⟩
    · exact ⟨v, upd_eq, keepVR hv fun ho a ha q => (hf ho a ha).1 (q ▸ hb)⟩
    · obtain ⟨vz, h2, h3⟩ := x.val z oz dz h1
      exact ⟨vz, (upd_ne hz).trans h2, keepVR h3 fun ho a ha q => x.hot z dz a (ho ▸ h1) (ha ▸ h2) (q ▸ hb)⟩
  · rcases vs_any h1 with ⟨rfl, rfl, rfl⟩ | ⟨hz, g1⟩
    · rw [upd_eq] at h3
      cases h3
      rcases vs_any h2 with ⟨q, _⟩ | ⟨hz', g2⟩
      · exact q.symm
      · rw [upd_ne hz'] at h4
        exact absurd h4 ((hf rfl a rfl).2 z' _ hz' g2)
    · rw [upd_ne hz] at h3
      rcases vs_any h2 with ⟨rfl, rfl, rfl⟩ | ⟨hz', g2⟩
      · rw [upd_eq] at h4
        cases h4
        exact absurd h3 ((hf rfl a rfl).2 z _ hz g1)
      · rw [upd_ne hz'] at h4
        exact x.sep z z' dz dz' a g1 g2 h3 h4
  · rcases vs_any h1 with ⟨rfl, rfl, rfl⟩ | ⟨hz, h1⟩
    · rw [upd_eq] at h2
      cases h2
      exact (hf rfl a rfl).1
    · rw [upd_ne hz] at h2
      exact x.hot z dz a h1 h2
  · by_cases q : a = b
    · rw [q]; exact hbl
    · obtain ⟨ob, ho⟩ := Option.ne_none_iff_exists'.mp (t.step.live a e)
      exact fun z => nopO <| (hk' a ob q ho).symm.trans z
  · obtain ⟨z, dz, h1, h2⟩ := h
    rcases vs_any h1 with ⟨rfl, rfl, rfl⟩ | ⟨hz, h1⟩
    · rw [upd_eq] at h2
      cases h2
      exact hn rfl a rfl
    · rw [upd_ne hz] at h2
      exact t.own a ⟨z, dz, h1, h2⟩
theorem Fram.storeL {h h' : Heap} (F : Fram PE h m) {y : Str} {v : Value} {ml : Str → Option Value} (hk : PE.kindOf y = some .local) (hn : h.Ns PE.locals ml) (hml : ∀ x, x ≠ (".0" : Str) → PE.kindOf x = some .local → ml x = m x)
    (hn' : h'.Ns PE.locals (fun z => if z = y then some v else ml z)) (hs : ∀ z ob, z ≠ PE.locals → h.get? z = some ob → h'.get? z = some ob) : Fram PE h' (upd y v m) := by
  refine ⟨F.kind, F.glob, F.bl, ⟨_, hn', fun z hz hkz => ?_⟩, fun z hz => ?_⟩
  · unfold upd
    rw [hml z hz hkz]
  · obtain ⟨a, h1, h2⟩ := F.cel z hz
    have : z ≠ y := fun q => by rw [q, hk] at hz; cases hz
    refine ⟨a, h1, ?_⟩
    rw [upd_ne this]
    obtain ⟨ob, e, r⟩ := id h2
    exact ⟨ob, hs a ob (Heap_cell_ne h2 hn) e, r⟩
theorem Fram.storeC {h h' : Heap} (F : Fram PE h m) (hi : CInj PE) {y : Str} {v : Value} {a : Addr} (hk : PE.kindOf y = some .cell) (h1 : PE.cells.lookup y = some a) (h2 : h.IsCell a (m y))
    (hc' : h'.IsCell a (some v)) (hs : Heap.SameBut a h h') : Fram PE h' (upd y v m) := by
  obtain ⟨ml, hns, hml⟩ := F.loc
  refine ⟨F.kind, F.glob, F.bl, ⟨ml, hns.sameBut hs (Ne.symm (Heap_cell_ne h2 hns)), fun z hz hkz => ?_⟩, fun z hz => ?_⟩
  · have : z ≠ y := fun q => by rw [q, hk] at hkz; cases hkz
    rw [upd_ne this]
    exact hml z hz hkz
  · by_cases q : z = y
    · subst q
      exact ⟨a, h1, by rw [upd_eq]; exact hc'⟩
    · obtain ⟨b, h3, h4⟩ := F.cel z hz
      refine ⟨b, h3, ?_⟩
      rw [upd_ne q]
      obtain ⟨ob, e, r⟩ := h4
      exact ⟨ob, hs.extBut b ob (fun w => q (hi z y a hz hk (w ▸ h3) h1)) e, r⟩
theorem St.store {A : Around} {E : Value → Shared → Prop} {Q : Unit → Shared → Prop} {G₀ : Heap} {s₀ : Shared} {m₀ : Str → Option Value} {vars₀ : Vars} (x : St c PE G s k m vars) (hi : CInj PE) {y : Str} (hy : isLoc PE.scope.names y = true) {o : Bool} {d : D} {v : Value}
    (hv : VR c G s.heap o v d) (hf : Free PE m vars o y v) (t : Go c PE G₀ G s₀ s m₀ m vars₀ vars) (hn : o = true → ∀ a, v = .ref a → OwnA m₀ vars₀ a ∨ s₀.heap.get? a = none)
    (hQ : ∀ h' tk, St c PE G { s with heap := h', toks := tk } k (upd y v m) (vset y o d vars) →
      Go c PE G₀ G s₀ { s with heap := h', toks := tk } m₀ (upd y v m) vars₀ (vset y o d vars) →
      (∀ b ob, ¬ FHot PE b → s.heap.get? b = some ob → h'.get? b = some ob) → Q () { s with heap := h', toks := tk }) :
    wpAny (Mo c) A (storeName PE y v) Q E s := by
  obtain ⟨hk, hd, h0⟩ := isLoc_kind hy
  have core : ∀ (b : Addr) (h' : Heap) (tk : Nat), FHot PE b → (∀ z ob, z ≠ b → s.heap.get? z = some ob → h'.get? z = some ob) → h'.get? b ≠ none → Fram PE h' (upd y v m) → Q () { s with heap := h', toks := tk } :=
    fun b h' tk hb hk' hbl hF => let ⟨p, q⟩ := x.stored hv hf t hn (tk := tk) hb hk' hbl hF; hQ h' tk p q fun z ob hz e => hk' z ob (fun q => hz (q ▸ hb)) e
  rcases hk with hk | hk
  · obtain ⟨ml, hns, hml⟩ := x.fr.loc
    exact wpAny_storeName_local hk hns (fun h' hn' hs' => core PE.locals h' _ (.inl rfl) (fun z ob hz e => hs'.extBut z ob hz e) (by obtain ⟨o, es, ep, e, _⟩ := hn'; exact fun q => nopO <| e.symm.trans q) (x.fr.storeL hk hns hml hn' fun z ob hz e => hs'.extBut z ob hz e)) (by rw [x.fr.kind]; rfl)
  · obtain ⟨a, h1, h2⟩ := x.fr.cel y hk
    exact wpAny_storeName_cell x.fr.kind hk h1 h2 fun h' hc' hs' => core a h' _ (.inr ⟨y, hk, h1⟩) (fun z ob hz e => hs'.extBut z ob hz e) (by obtain ⟨o, e, _⟩ := hc'; exact fun q => nopO <| e.symm.trans q) (x.fr.storeC hi hk h1 h2 hc' hs')

theorem Free.false {y : Str} {v : Value} : Free PE m vars false y v := fun e => nopB <| e
/-- a fresh value is free -/
theorem Free.of_fresh {o : Bool} {y : Str} {v : Value} (x : St c PE G s k m vars) (h : o = true → ∀ a, v = .ref a → s.heap.get? a = none) : Free PE m vars o y v := fun ho a e => by
  have h := h ho a e
  refine ⟨fun q => x.fr.live q h, fun z d hz h1 h2 => ?_⟩
  obtain ⟨v', h3, h4⟩ := x.val z true d h1
  rw [h2] at h3; cases h3
  obtain ⟨a', e', h5, _⟩ := Own.live (h := s.heap) h4
  cases e'
  exact h5 h
end
end Mine

-- G11
namespace Mine
theorem AOk.mark {κ : Nat} {A : Around} (h : AOk κ A) : AOk κ (A.mark Option.none) := by
  rw [show A.mark Option.none = A from by cases A; rfl]; exact h

theorem map_eraseIdx' {α β : Type} (g : α → β) : ∀ (l : List α) (j : Nat), (l.map g).eraseIdx j = (l.eraseIdx j).map g
  | [], j => by simp
  | x :: r, 0 => by simp
  | x :: r, j + 1 => by simp [map_eraseIdx' g r j]


section
variable {c : Cx} {PE : Env} {G G' : Heap} {s s' : Shared} {k : Nat} {m : Str → Option Value} {vars : Vars} {κ : Nat} {A : Around} {cl : Cl}

theorem VR.keepAt {h h' : Heap} {o : Bool} {v : Value} {d : D} (h3 : VR c G h o v d) (bad : Addr → Prop) (hk : ∀ z ob, ¬ bad z → h.get? z = some ob → h'.get? z = some ob) (hne : o = true → ∀ a, v = .ref a → ¬ bad a) : VR c G h' o v d := by
  cases o with
  | false => exact h3
  | true => exact Own.mono (h := h) h3 Sub.rfl' (fun _ _ e => e) fun a ob ha hfa e => hk a ob (hne rfl a ha) e
theorem St.own (x : St c PE G s k m vars) {y : Str} {d : D} (hx : vars.lookup y = some (true, d)) : ∃ a, m y = some (.ref a) ∧ Own c G s.heap (.ref a) d ∧ a ≠ c.fa ∧ G.get? a = Option.none ∧ s.heap.get? a ≠ Option.none := by
  obtain ⟨v, h1, h2⟩ := x.val y true d hx
  have h2 : Own c G s.heap v d := h2
  obtain ⟨a, rfl, h3, h4, h5⟩ := h2.live
  exact ⟨a, h1, h2, h4, h5, h3⟩

/-- an own list or dict is changed where it stands -/
theorem St.turn (x : St c PE G s k m vars) {y : Str} {d d' : D} {a : Addr} {h' : Heap} (tk : Nat) (hx : vars.lookup y = some (true, d)) (hm : m y = some (.ref a))
    (hs : ∀ b o, b ≠ a → s.heap.get? b = some o → h'.get? b = some o) (ho : Own c G h' (.ref a) d') :
    St c PE G { s with heap := h', toks := tk } k m (vset y true d' vars) ∧ Go c PE G G s { s with heap := h', toks := tk } m m vars (vset y true d' vars) := by
  obtain ⟨a', e1, e2, e3, e4, e5⟩ := x.own hx
  rw [hm] at e1; cases e1
  have own : ∀ z d₁, (vset y true d' vars).lookup z = some (true, d₁) → ∃ d₂, vars.lookup z = some (true, d₂) := fun z d₁ h =>
    (vs_any h).elim (fun q => ⟨d, q.1 ▸ hx⟩) fun q => ⟨d₁, q.2⟩
  refine ⟨⟨x.ok.chg (fun b => b = a) hs fun b e => by subst e; exact ⟨e4, e3⟩, x.fr.keep fun b o hb e => hs b o (fun q => x.hot y d a hx hm (q ▸ hb)) e, x.hotG, fun z o dz h => ?_, fun z z' d₁ d₂ b h1 h2 h3 h4 => ?_, fun z d₁ b h1 h2 => ?_⟩,
    ⟨⟨Sub.rfl', fun _ _ e => .inl e, fun b o h1 h2 e => hs b o (fun q => h2 (.inr ⟨y, d, hx, q ▸ hm⟩)) e, fun b e => ?_, rfl, rfl, rfl⟩, fun b h => ?_⟩⟩
  · rcases vs_any h with ⟨rfl, rfl, rfl⟩ | ⟨hz, h⟩
    · exact ⟨_, hm, ho⟩
    · obtain ⟨v, h1, h2⟩ := x.val z o dz h
      exact ⟨v, h1, h2.keepAt (fun b => b = a) hs fun eo b hb q => hz (x.sep z y dz d a (eo ▸ h) hx (by rw [h1, hb, q]) hm)⟩
  · obtain ⟨_, g1⟩ := own _ _ h1
    obtain ⟨_, g2⟩ := own _ _ h2
    exact x.sep z z' _ _ b g1 g2 h3 h4
  · obtain ⟨_, g1⟩ := own _ _ h1
    exact x.hot z _ b g1 h2
  · by_cases q : b = a
    · subst q
      obtain ⟨_, e, e', _⟩ := Own.live ho
      cases e; exact e'
    · obtain ⟨o, ho⟩ := Option.ne_none_iff_exists'.mp e
      exact fun z => nopO <| (hs b o q ho).symm.trans z
  · obtain ⟨z, d₁, h1, h2⟩ := h
    obtain ⟨d₂, g⟩ := own _ _ h1
    exact .inl ⟨z, d₂, g, h2⟩

theorem getMethod_list {id : String} {name : Str} (sl : Slot "list" name id) (ht : typeOf (.builtin id) = pure (.type "method_descriptor")) {M : Model} {E : Value → Shared → Prop} {l : Addr} {vs : List Value} {n : Nat} {pl : Sem Bool} {Q : Value × List Value → Shared → Prop}
    (ho : s.heap.get? l = some (lstO vs n)) (h : Q (.builtin id, [.ref l]) s) : wpAny M A (getMethod (.ref l) name pl) Q E s := by
  have hT : s.TypeIs (.ref l) "list" := ⟨_, ho, rfl⟩
  unfold getMethod
  refine wpAny_bind (wpAny_specialOf hT list_getattribute ?_)
  show wpAny M A (if (Manifest.canonical "list.__getattribute__" != "object.__getattribute__") = true then _ else _) Q E s
  rw [canon_list_getattribute, if_neg Bool.false_ne_true]
  refine wpAny_bind (wpAny_specialOf hT list_getattr_none ?_)
  refine wpAny_bind (wpAny_specialOf hT sl.lookup ?_)
  refine wpAny_bind (wpAny_of_eq ht ?_)
  refine wpAny_bind (wpAny_load ho ?_)
  exact wpAny_bind (wpAny_rule (wpAny_pure h))


/-- one method of a list upon one argument -/
theorem EvP.meth1 {id : String} {name : Str} (sl : Slot "list" name id) (ht : typeOf (.builtin id) = pure (.type "method_descriptor")) {e : Expr} {r : Bool × D × Nat} (h : EvP c κ PE vars k e r) (hA : AOk κ A) (x : St c PE G s k m vars)
    {a : Addr} {vs : List Value} {n : Nat} (ho : s.heap.get? a = some (lstO vs n)) {pl : Sem Bool} {pos : Pos} {Q : Value → Shared → Prop}
    (hq : ∀ v s₁ G₁, Ok c G₁ s₁ r.2.2 → StepE c G G₁ s s₁ → Is c G₁ v r.2.1 → wpAny (Mo c) A (call (.builtin id) [.ref a, v]) Q NoE s₁) :
    wpAny (Mo c) A (getMethod (.ref a) name pl) (fun fx s₂ => wpAny (Mo c) A (PySem.callWith pos fx.1 fx.2 (backTo pos (starEach [e] PE)) []) Q NoE s₂) NoE s :=
  getMethod_list sl ht ho (callWith_method1 (wpAny_items_cons (h.use hA x fun v s₁ G₁ o₁ t₁ i₁ => wpAny_items_nil (hq v s₁ G₁ o₁ t₁ i₁)) (starEach_cons (noStarE h.pl))) (starEach_cons (noStarE h.pl)) rfl)

theorem upd_get {h : Heap} {a : Addr} {vs ws : List Value} {n : Nat} (g : Array Value → Array Value) (ho : h.get? a = some (lstO vs n)) (hg : g vs.toArray = ws.toArray) : ∃ n', (h.update a (Obj.mapSeq g)).get? a = some (lstO ws n') := by
  have := PySem.IsL.update ho g
  rw [hg] at this
  exact ⟨_, this⟩
theorem upd_other {h : Heap} {a : Addr} (g : Obj → Obj) : ∀ b o, b ≠ a → h.get? b = some o → (h.update a g).get? b = some o := fun b o hb e => (Heap.get?_update_other _ _ (Ne.symm hb)).trans e

theorem erase_idx : ∀ {xs : List Str} {t : Str}, t ∈ xs → ∃ j, j < xs.length ∧ xs[j]? = some t ∧ (∀ i, i < j → xs[i]? ≠ some t) ∧ xs.erase t = xs.eraseIdx j
  | [], t, h => by cases h
  | x :: r, t, h => by
    by_cases e : x = t
    · subst e
      exact ⟨0, by simp, by simp, fun i hi => absurd hi (Nat.not_lt_zero _), by simp⟩
    · have h' : t ∈ r := by
        rcases List.mem_cons.mp h with q | q
        · exact absurd q.symm e
        · exact q
      obtain ⟨j, h1, h2, h3, h4⟩ := erase_idx h'
      refine ⟨j + 1, by simpa using h1, by simpa using h2, fun i hi => ?_, ?_⟩
      · cases i with
        | zero => simpa using e
        | succ i => simpa using h3 i (by omega)
      · rw [List.erase_cons_tail (by simpa using e), h4]; rfl


/-- what a method of a list makes of it -/
structure MutF (c : Cx) (id : String) (l : List D) (y : D) (l' : List D) : Prop where
  run : ∀ (A : Around) (G : Heap) (s : Shared) (k : Nat) (a : Addr) (vs : List Value) (n : Nat) (v : Value) (Q E : Value → Shared → Prop), Ok c G s k → s.heap.get? a = some (lstO vs n) → IsL c G vs l → Is c G v y → l.length ≤ lim →
    (∀ h' vs' n', (∀ b o, b ≠ a → s.heap.get? b = some o → h'.get? b = some o) → h'.get? a = some (lstO vs' n') → IsL c G vs' l' → Q .none { s with heap := h' }) → wpAny (Mo c) A (call (.builtin id) [.ref a, v]) Q E s
inductive MutP (c : Cx) (mm : Str) (l : List D) (y : D) (l' : List D) : Prop
  | mk (id : String) (sl : Slot "list" mm id) (ht : typeOf (.builtin id) = pure (.type "method_descriptor")) (h : MutF c id l y l')
theorem u_append (l : List D) (y : D) : MutF c "list.append" l y (l ++ [y]) := by
  refine ⟨fun A G s k a vs n v Q E o h3 h4 hv hl hq => ?_⟩
  refine append_at h3 (fun h' hs e => hq h' (vs ++ [v]) (n + 1) (fun b o hb e => hs.extBut b o hb e) ?_ (h4.append (.cons hv .nil))) (h4.fits hl)
  rw [e, List.push_toArray]
theorem u_extend {l ys : List D} (hb : l.length + ys.length ≤ lim) : MutF c "list.extend" l (.tup ys) (l ++ ys) := by
  refine ⟨fun A G s k a vs n v Q E o h3 h4 hv hl hq => ?_⟩
  cases hv with
  | @tup p ws n2 _ g1 g2 g3 =>
    have hw : IsL c G ws ys := ⟨g2, g3⟩
    have hN : vs.toArray.size + ws.toArray.size ≤ sizeLine := two_size h4 hw hb
    obtain ⟨n', e'⟩ := upd_get (fun xs => xs ++ ws.toArray) h3 (ws := vs ++ ws) (List.append_toArray ..)
    exact call_meets PySem.F.slot_list_extend ⟨_, h3, rfl⟩ PySem.F.entry_list_extend (PySem.F.args_list_extend_2 _ _)
      (PySem.AutoSeq1.list_extend_list_tuple_0 a vs.toArray n p ws.toArray n2 (extend_door hN) (h4.fits hl) (Nat.le_succ_of_le hN)) ⟨h3, o.sub _ _ g1, hq _ _ _ (upd_other _) e' (h4.append hw)⟩
theorem u_remove {zs : List Str} {t : Str} (hc : t ∈ zs) : MutF c "list.remove" (zs.map .str) (.str t) ((zs.erase t).map .str) := by
  refine ⟨fun A G s k a vs n v Q E o h3 h4 hv hl hq => ?_⟩
  obtain ⟨j, j1, j2, j3, j4⟩ := erase_idx hc
  have hj : j < vs.toArray.size := by rw [h4.sizeS]; exact j1
  cases hv with
  | str _ tk =>
    obtain ⟨n', e'⟩ := upd_get (fun xs => xs.eraseIdxIfInBounds j) h3 (ws := vs.eraseIdx j) (by
      apply Array.toList_inj.mp
      simp [Array.eraseIdxIfInBounds, show j < vs.length from hj])
    refine call_meets PySem.F.slot_list_remove ⟨_, h3, rfl⟩ PySem.F.entry_list_remove (PySem.F.args_list_remove_2 _ _)
      (PySem.MeetsSeq.list_remove a vs.toArray n (.str t tk) (strE t) (fun y hy => ?_) j hj ?_ (fun i hi hij => ?_) (h4.fits hl)) ⟨h3, ?_⟩
    · obtain ⟨d, g1, g2⟩ := h4.mem hy
      obtain ⟨u, _, rfl⟩ := List.mem_map.mp g1
      cases g2
      have := SeqRoads2.EqGives.str u t ‹_› tk
      rw [SeqAt.str_beq] at this
      exact this
    · obtain ⟨u, tk', g1, g2⟩ := h4.atStr hj
      rw [j2] at g1; cases g1
      rw [g2]
      exact beq_self_eq_true _
    · obtain ⟨u, tk', g1, g2⟩ := h4.atStr hi
      rw [g2]
      exact beq_false_of_ne fun q => j3 i hij (q ▸ g1)
    · refine hq _ _ _ (upd_other _) e' ?_
      rw [j4, ← map_eraseIdx']
      exact h4.eraseIdx j
theorem s_mut : (⟨#[97, 112, 112, 101, 110, 100]⟩ : Str) = ("append" : Str) ∧ (⟨#[101, 120, 116, 101, 110, 100]⟩ : Str) = ("extend" : Str) ∧ (⟨#[114, 101, 109, 111, 118, 101]⟩ : Str) = ("remove" : Str) := by decide +kernel
theorem rem_of {l : List D} {y r : D} (h : remD l y = some r) : ∃ (zs : List Str) (t : Str), l = zs.map .str ∧ y = .str t ∧ t ∈ zs ∧ r = .lst ((zs.erase t).map .str) :=
  obind h fun zs e h => obind h fun t e' h => by
    by_cases q : zs.contains t = true
    · rw [if_pos q] at h
      cases h
      exact ⟨zs, t, allStr_map e, strD_of _ _ e', List.contains_iff_mem.mp q, rfl⟩
    · rw [if_neg q] at h
      exact nopO <| h
theorem mut_snd (mm : Str) (l : List D) (y : D) : Yl cl (mutL mm l y) (MutP c mm l y) := by
  unfold mutL
  rw [s_mut.1, s_mut.2.1, s_mut.2.2]
  exact .cond (fun h => .ret (by cases eq_of_beq h; exact ⟨_, slot_list_append, type_list_append, u_append l y⟩)) fun _ =>
    .cond (fun h => .bind .asTup fun ys e => .ask fun hb => .ret (by cases eq_of_beq h; subst e; exact ⟨_, PySem.F.slot_list_extend, PySem.F.type_list_extend, u_extend (dec hb)⟩)) fun _ =>
    .gd fun h => .opt fun r e => by
      obtain ⟨zs, t, rfl, rfl, ht, rfl⟩ := rem_of e
      exact .ret (by cases eq_of_beq h; exact ⟨_, PySem.F.slot_list_remove, PySem.F.type_list_remove, u_remove ht⟩)
end
end Mine

-- G12
namespace Mine

/-- a law that goes along with the names' own -/
structure JOk (J : Heap → (Str → Option Value) → Prop) (ok : Str → Bool) : Prop where
  mono : ∀ G G' m, Sub G G' → J G m → J G' m
  put : ∀ y v G m, ok y = true → J G m → J G (upd y v m)
noncomputable def T0 : Heap → (Str → Option Value) → Prop := fun _ _ => True
theorem T0.ok : JOk T0 fun _ => true := ⟨fun _ _ _ _ _ => trivial, fun _ _ _ _ _ _ => trivial⟩
structure Sj (J : Heap → (Str → Option Value) → Prop) (c : Cx) (PE : Env) (G : Heap) (s : Shared) (k : Nat) (m : Str → Option Value) (vars : Vars) : Prop where
  st : St c PE G s k m vars
  j : J G m
inductive PostJ (J : Heap → (Str → Option Value) → Prop) (c : Cx) (PE : Env) (G : Heap) (s : Shared) (m : Str → Option Value) (vars : Vars) (r : Fl × Vars × Nat) (f : Flow) (s' : Shared) : Prop
  | mk (G' : Heap) (m' : Str → Option Value) (h1 : Sj J c PE G' s' r.2.2 m' r.2.1) (h2 : Go c PE G G' s s' m m' vars r.2.1) (h3 : FlowIs c G' r.1 f) : PostJ J c PE G s m vars r f s'
noncomputable def StP (J : Heap → (Str → Option Value) → Prop) (c : Cx) (κ : Nat) (PE : Env) (st : Stmt) (vars : Vars) (k : Nat) (r : Fl × Vars × Nat) : Prop :=
  ∀ A G s m, AOk κ A → Sj J c PE G s k m vars → wpAny (Mo c) A (exec st PE) (PostJ J c PE G s m vars r) NoE s
noncomputable def BkP (J : Heap → (Str → Option Value) → Prop) (c : Cx) (κ : Nat) (PE : Env) (body : List Stmt) (vars : Vars) (k : Nat) (r : Fl × Vars × Nat) : Prop :=
  ∀ A G s m, AOk κ A → Sj J c PE G s k m vars → wpAny (Mo c) A (execs body PE) (PostJ J c PE G s m vars r) NoE s
noncomputable def SndS (J : Heap → (Str → Option Value) → Prop) (c : Cx) (κ : Nat) (PE : Env) (cl : Cl) (g : Stmt → EvS) : Prop := ∀ st vars k, Yl cl (g st vars k) (StP J c κ PE st vars k)
noncomputable def Fl.goes : Fl → Bool
  | .ret _ => false
  | _ => true

section
variable {J : Heap → (Str → Option Value) → Prop} {ok : Str → Bool} {c : Cx} {PE : Env} {G G' : Heap} {s s' s₁ : Shared} {k k' : Nat} {m m' : Str → Option Value} {vars vars' : Vars} {κ : Nat} {A : Around} {cl : Cl} {r : Fl × Vars × Nat}

theorem Sj.step (hJ : JOk J ok) (x : Sj J c PE G s k m vars) (t : StepE c G G' s s') (o : Ok c G' s' k') : Sj J c PE G' s' k' m vars := ⟨x.st.step t o, hJ.mono _ _ _ t.le x.j⟩
theorem PostJ.trans {f : Flow} (t : Go c PE G G' s s' m m' vars vars') (x : PostJ J c PE G' s' m' vars' r f s₁) : PostJ J c PE G s m vars r f s₁ := by
  obtain ⟨G₂, m₂, h1, h2, h3⟩ := x
  exact ⟨G₂, m₂, h1, t.trans h2, h3⟩
theorem PostJ.here {f : Flow} {fl : Fl} (x : Sj J c PE G s k m vars) (h : FlowIs c G fl f) : PostJ J c PE G s m vars (fl, vars, k) f s := ⟨G, m, x, Go.ofE (.refl _ _), h⟩

/-! blocks -/
theorem b_seq {st : Stmt} {rest : List Stmt} {v : Vars} (h : StP J c κ PE st vars k (.nxt, v, k')) (t : BkP J c κ PE rest v k' r) : BkP J c κ PE (st :: rest) vars k r := fun A G s m hA x =>
  wpAny_execs_cons (wseq (h A G s m hA x) fun f s₁ p => by
    obtain ⟨G₁, m₁, x₁, t₁, i₁⟩ := p
    cases i₁
    exact wseq (t A G₁ s₁ m₁ hA x₁) fun f s₂ q => q.trans t₁)
theorem b_cont {st : Stmt} {rest : List Stmt} {v : Vars} (h : StP J c κ PE st vars k (.cont, v, k')) : BkP J c κ PE (st :: rest) vars k (.cont, v, k') := fun A G s m hA x =>
  wpAny_execs_cons (wseq (h A G s m hA x) fun f s₁ p => by
    obtain ⟨G₁, m₁, x₁, t₁, i₁⟩ := p
    cases i₁
    exact ⟨G₁, m₁, x₁, t₁, .cont⟩)
theorem b_ret {st : Stmt} {rest : List Stmt} {v : Vars} {d : D} (h : StP J c κ PE st vars k (.ret d, v, k')) : BkP J c κ PE (st :: rest) vars k (.ret d, v, k') := fun A G s m hA x =>
  wpAny_execs_cons (wseq (h A G s m hA x) fun f s₁ p => by
    obtain ⟨G₁, m₁, x₁, t₁, i₁⟩ := p
    cases i₁ with
    | ret i => exact ⟨G₁, m₁, x₁, t₁, .ret i⟩)
theorem b_nil : BkP J c κ PE [] vars k (.nxt, vars, k) := fun A G s m hA x => wpAny_execs_nil (.here x .nxt)
theorem evSs_snd {g : Stmt → EvS} (S : SndS J c κ PE cl g) : ∀ body vars k, Yl cl (evSs g body vars k) (BkP J c κ PE body vars k)
  | [], vars, k => .ret b_nil
  | st :: r, vars, k => .bind (S st vars k) fun x h => by
    obtain ⟨fl, v, k'⟩ := x
    cases fl
    · exact (evSs_snd S r v k').mono fun y t => b_seq h t
    · exact .ret (b_cont h)
    · exact .ret (b_ret h)

theorem St.freeze_all (x : St c PE G s k m vars) : ∃ G', St c PE G' s k m (freezeAll vars) ∧ Go c PE G G' s s m m vars (freezeAll vars) := by
  rw [freezeAll_by]; exact x.freeze _
theorem s_ret {e : Expr} {pos : Pos} {x : Bool × D × Nat} (h : EvP c κ PE (freezeAll vars) k e x) : StP T0 c κ PE (.Return (some e) pos) vars k (.ret x.2.1, freezeAll vars, x.2.2) := fun A G s m hA st => by
  obtain ⟨G₁, x₁, t₁⟩ := st.st.freeze_all
  exact wpAny_Return_some (h.use hA x₁ fun v s₂ G₂ o₂ t₂ i₂ => ⟨G₂, m, ⟨x₁.step t₂ o₂, trivial⟩, t₁.trans (.ofE t₂), .ret i₂⟩)
theorem s_if (hJ : JOk J ok) {t : Expr} {b o : List Stmt} {pos : Pos} {x : Bool × Nat} (h : TrP c κ PE vars k t x) (g : BkP J c κ PE (if x.1 = true then b else o) vars x.2 r) : StP J c κ PE (.If t b o pos) vars k r := fun A G s m hA st =>
  wpAny_If (h.use hA st.st fun s₂ G₂ o₂ t₂ => by
    have := wseq (E := NoE) (g A G₂ s₂ m hA (st.step hJ t₂ o₂)) fun f s₃ q => q.trans (Go.ofE t₂)
    obtain ⟨b, k'⟩ := x
    cases b <;> exact this)
theorem s_frz {st : Stmt} {xs : List Str} (h : StP T0 c κ PE st (freezeNames xs vars) k r) : StP T0 c κ PE st vars k r := fun A G s m hA x => by
  obtain ⟨G₁, x₁, t₁⟩ := x.st.freeze (fun x => xs.contains x)
  exact wseq (h A G₁ s m hA ⟨x₁, trivial⟩) fun f s₃ q => q.trans t₁

/-- a while's turns -/
inductive WhP (c : Cx) (κ : Nat) (PE : Env) (t : Expr) (body : List Stmt) : Nat → Vars → Nat → Fl × Vars × Nat → Prop
  | off {n : Nat} {vs : Vars} {k k₁ : Nat} (h : TrP c κ PE vs k t (false, k₁)) : WhP c κ PE t body (n + 1) vs k (.nxt, vs, k₁)
  | on {n : Nat} {vs : Vars} {k k₁ : Nat} {x y : Fl × Vars × Nat} (h : TrP c κ PE vs k t (true, k₁)) (g : BkP T0 c κ PE body vs k₁ x) (hx : x.1.goes = true) (w : WhP c κ PE t body n x.2.1 x.2.2 y) : WhP c κ PE t body (n + 1) vs k y
  | out {n : Nat} {vs : Vars} {k k₁ : Nat} {x : Fl × Vars × Nat} (h : TrP c κ PE vs k t (true, k₁)) (g : BkP T0 c κ PE body vs k₁ x) (hx : x.1.goes = false) : WhP c κ PE t body (n + 1) vs k x
theorem evWhile_snd {t : Expr} {body : List Stmt} {f : Vars → Nat → M (Bool × Nat)} {b : EvS} (F : ∀ vs k, Yl cl (f vs k) (TrP c κ PE vs k t)) (B : ∀ vs k, Yl cl (b vs k) (BkP T0 c κ PE body vs k)) : ∀ n vs k, Yl cl (evWhile f b n vs k) (WhP c κ PE t body n vs k)
  | 0, vs, k => .fail
  | n + 1, vs, k => .bind (F vs k) fun x h => by
    obtain ⟨b, k₁⟩ := x
    refine .test (fun q => .bind (B vs k₁) fun x g => ?_) fun q => by cases q; exact .ret (.off h)
    cases q
    obtain ⟨fl, v, k₂⟩ := x
    cases fl
    · exact (evWhile_snd F B n v k₂).mono fun y w => .on h g rfl w
    · exact (evWhile_snd F B n v k₂).mono fun y w => .on h g rfl w
    · exact .ret (.out h g rfl)
/-- behind a turn of a loop -/
noncomputable def Tn (I : Nat → Shared → Prop) (Q : Flow → Shared → Prop) (n : Nat) : Flow → Shared → Prop := fun f s => match f with
  | .next | .cont => ∃ m, m < n ∧ I m s
  | .brk => Q .next s
  | .ret v => Q (.ret v) s
theorem while_rule {M : Program} {w : World} {t : Expr} {b : List Stmt} {pos : Pos} {Q : Flow → Shared → Prop} (I : Nat → Shared → Prop)
    (turn : ∀ n s, I n s → wpAny (model M w) A (isTrue t PE (eval t PE)) (fun r s₂ => cond r (wpAny (model M w) A (execs b PE) (Tn I Q n) NoE s₂) (Q .next s₂)) NoE s) (n : Nat) (h : I n s) :
    wpAny (model M w) A (exec (.While t b [] pos) PE) Q NoE s :=
  wpAny_While (codeAny_whileLoop I (fun n s h => wseq (turn n s h) fun r s₂ q => by
    cases r
    · exact wpAny_execs_nil q
    · exact wseq q fun f s₃ q => by cases f <;> exact q) n h)
theorem PostJ.tn {I : Nat → Shared → Prop} {Q : Flow → Shared → Prop} {n : Nat} {f : Flow} (p : PostJ J c PE G s m vars r f s') (hx : r.1.goes = true) (hI : ∀ G' m', Sj J c PE G' s' r.2.2 m' r.2.1 → Go c PE G G' s s' m m' vars r.2.1 → ∃ n', n' < n ∧ I n' s') :
    Tn I Q n f s' := by
  obtain ⟨G', m', x, t, i⟩ := p
  obtain ⟨fl, v, k'⟩ := r
  cases i with
  | nxt => exact hI G' m' x t
  | cont => exact hI G' m' x t
  | ret i => exact nopB <| hx
theorem PostJ.tr {I : Nat → Shared → Prop} {Q : Flow → Shared → Prop} {n : Nat} {f : Flow} (p : PostJ J c PE G s m vars r f s') (hx : r.1.goes = false) (hQ : ∀ f, PostJ J c PE G s m vars r f s' → Q f s') : Tn I Q n f s' := by
  obtain ⟨G', m', x, t, i⟩ := p
  obtain ⟨fl, v, k'⟩ := r
  cases i with
  | nxt => exact nopB <| hx
  | cont => exact nopB <| hx
  | ret i => exact hQ _ ⟨G', m', x, t, .ret i⟩
noncomputable def WhI (c : Cx) (κ : Nat) (PE : Env) (t : Expr) (b : List Stmt) (G : Heap) (s : Shared) (m : Str → Option Value) (vars : Vars) (r : Fl × Vars × Nat) (n : Nat) (s' : Shared) : Prop :=
  ∃ G' m' vars₁ k₁, St c PE G' s' k₁ m' vars₁ ∧ Go c PE G G' s s' m m' vars vars₁ ∧ WhP c κ PE t b n vars₁ k₁ r
theorem s_while {t : Expr} {b : List Stmt} {pos : Pos} {n : Nat} (h0 : WhP c κ PE t b n vars k r) : StP T0 c κ PE (.While t b [] pos) vars k r := fun A G s m hA x => by
  refine while_rule (WhI c κ PE t b G s m vars r) ?_ n ⟨G, m, vars, k, x.st, Go.ofE (.refl _ _), h0⟩
  clear h0 x
  rintro n s₁ ⟨G₁, m₁, vars₁, k₁, x, t, w⟩
  cases w with
  | off h => exact h.use hA x fun s₂ G₂ o t' => ⟨G₂, m₁, ⟨x.step t' o, trivial⟩, t.trans (.ofE t'), .nxt⟩
  | @on n _ _ _ y _ h g hx w => exact h.use hA x fun s₂ G₂ o t' => wseq (g A G₂ s₂ m₁ hA ⟨x.step t' o, trivial⟩) fun f s₃ q => q.tn hx fun G' m' x' t'' => ⟨n, Nat.lt_succ_self _, G', m', _, _, x'.st, (t.trans (.ofE t')).trans t'', w⟩
  | out h g hx => exact h.use hA x fun s₂ G₂ o t' => wseq (g A G₂ s₂ m₁ hA ⟨x.step t' o, trivial⟩) fun f s₃ q => (q.trans (t.trans (.ofE t'))).tr hx fun _ p => p

/-! stores by a name -/
theorem PostE.mask {own : Bool} {d : D} {v : Value} (p : PostE c G s k own d v s₁) (b : Bool) : PostE c G s k (own && b) d v s₁ := by
  cases b with
  | true => rw [Bool.and_true]; exact p
  | false => rw [Bool.and_false]; exact p.frz


theorem Yl.bindV {sc : Kinds} {y : Str} {o : Bool} {d : D} : Yl cl (bindV sc y o d vars) fun v => isLoc sc y = true ∧ v = vset y (o && ownNames.contains y) d vars := .gd fun h => .ret ⟨h, rfl⟩
theorem St.put (x : St c PE G s k m vars) (hi : CInj PE) {y : Str} {own : Bool} {d : D} {v : Value} {E : Value → Shared → Prop} (hl : isLoc PE.scope.names y = true) (p : PostE c G s k' own d v s₁) {Q : Unit → Shared → Prop}
    (hQ : ∀ G₁ h' tk, Sub G G₁ → St c PE G₁ { s₁ with heap := h', toks := tk } k' (upd y v m) (vset y (own && ownNames.contains y) d vars) → Go c PE G G₁ s { s₁ with heap := h', toks := tk } m (upd y v m) vars (vset y (own && ownNames.contains y) d vars) →
      (∀ b ob, ¬ FHot PE b → s₁.heap.get? b = some ob → h'.get? b = some ob) → Q () { s₁ with heap := h', toks := tk }) :
    wpAny (Mo c) A (storeName PE y v) Q E s₁ := by
  obtain ⟨G₁, o₁, t₁, r₁, f₁⟩ := p.mask (ownNames.contains y)
  refine (x.step t₁ o₁).store hi hl r₁ (fun ho a e => ?_) (Go.ofE t₁) (fun ho a e => .inr (f₁ ho a e)) fun h' tk h1 h2 h3 => hQ G₁ h' tk t₁.le h1 h2 h3
  have hf := f₁ ho a e
  refine ⟨fun q => x.fr.live q hf, fun z dz hz h1 h2 => ?_⟩
  obtain ⟨a', g1, _, _, _, g5⟩ := x.own h1
  rw [h2] at g1; cases g1
  exact g5 hf
theorem St.putS (x : St c PE G s k m vars) (hi : CInj PE) {y : Str} {own : Bool} {d : D} {v : Value} {E : Value → Shared → Prop} (hl : isLoc PE.scope.names y = true) (p : PostE c G s k' own d v s₁) :
    wpAny (Mo c) A (storeName PE y v) (fun _ s' => PostJ T0 c PE G s m vars (.nxt, vset y (own && ownNames.contains y) d vars, k') .next s') E s₁ :=
  x.put hi hl p fun G₁ h' tk _ h1 h2 _ => ⟨G₁, _, ⟨h1, trivial⟩, h2, .nxt⟩

/-- a change at places that no name knows -/
theorem St.others (x : St c PE G s k m vars) (zs : List Addr) {h' : Heap} (tk : Nat) (hk : ∀ b o, b ∉ zs → s.heap.get? b = some o → h'.get? b = some o) (hG : ∀ b ∈ zs, G.get? b = Option.none) (hf : ∀ b ∈ zs, b ≠ c.fa) (hh : ∀ b ∈ zs, ¬ HotS PE m vars b) :
    St c PE G { s with heap := h', toks := tk } k m vars := by
  refine ⟨x.ok.chg (fun b => b ∈ zs) hk fun b e => ⟨hG b e, hf b e⟩, x.fr.keep fun b o hb e => hk b o (fun q => hh b q (.inl hb)) e, x.hotG, fun z o d h => ?_, x.sep, x.hot⟩
  obtain ⟨v, h1, h2⟩ := x.val z o d h
  exact ⟨v, h1, h2.keepAt (fun b => b ∈ zs) hk fun eo b hb q => hh b q (.inr ⟨z, d, eo ▸ h, by rw [h1, hb]⟩)⟩
theorem Go.others (t : Go c PE G G' s s' m m' vars vars') (zs : List Addr) {h' : Heap} (tk : Nat) (hk : ∀ b o, b ∉ zs → s'.heap.get? b = some o → h'.get? b = some o) (hC : ∀ b ∈ zs, s.heap.get? b = Option.none) :
    Go c PE G G' s { s' with heap := h', toks := tk } m m' vars vars' := by
  refine ⟨⟨t.step.le, t.step.new, fun a o h1 h2 e => hk a o (fun q => by rw [hC a q] at e; cases e) (t.step.keep a o h1 h2 e), fun a e => ?_, t.step.gens, t.step.drawn, t.step.os⟩, t.own⟩
  obtain ⟨o, ho⟩ := Option.ne_none_iff_exists'.mp (t.step.live a e)
  rw [hk a o (fun q => e (hC a q)) ho]
  exact fun h => nopO h
theorem mem1 {P : Addr → Prop} {C : Addr} (h : P C) : ∀ b ∈ [C], P b := fun b hb => List.mem_singleton.mp hb ▸ h
theorem St.other (x : St c PE G s k m vars) {C : Addr} {h' : Heap} (tk : Nat) (hk : ∀ b o, b ≠ C → s.heap.get? b = some o → h'.get? b = some o) (hG : G.get? C = Option.none) (hf : C ≠ c.fa) (hh : ¬ FHot PE C) (ho : ∀ z d, vars.lookup z = some (true, d) → m z ≠ some (.ref C)) :
    St c PE G { s with heap := h', toks := tk } k m vars :=
  x.others [C] tk (fun b o hb => hk b o fun q => hb (List.mem_singleton.mpr q)) (mem1 hG) (mem1 (P := fun b => b ≠ c.fa) hf) (mem1 (P := fun b => ¬ HotS PE m vars b) fun q => q.elim hh fun ⟨z, d, h1, h2⟩ => ho z d h1 h2)
theorem Go.other (t : Go c PE G G' s s' m m' vars vars') {C : Addr} {h' : Heap} (tk : Nat) (hk : ∀ b o, b ≠ C → s'.heap.get? b = some o → h'.get? b = some o) (hC : s.heap.get? C = Option.none) :
    Go c PE G G' s { s' with heap := h', toks := tk } m m' vars vars' := t.others [C] tk (fun b o hb => hk b o fun q => hb (List.mem_singleton.mpr q)) (mem1 hC)
theorem setItem_lst {E : Value → Shared → Prop} {l : Addr} {vs : List Value} {n : Nat} {i : Int} {t : Tok} {v : Value} {Q : Unit → Shared → Prop} (ho : s.heap.get? l = some (lstO vs n)) (h0 : 0 ≤ i) (hfit : i < 2 ^ 63) (hn : i.toNat < vs.length)
    (hQ : ∀ h' n', (∀ b o, b ≠ l → s.heap.get? b = some o → h'.get? b = some o) → h'.get? l = some (lstO (vs.set i.toNat v) n') → Q () { s with heap := h' }) :
    wpAny (Mo c) A (setItem (.ref l) (.int i t) v) Q E s := by
  have hl := isList_of ho
  unfold setItem
  try with_reducible refine wpAny_holding ?_
  refine wpAny_bind (wpAny_sequenceKey hl.typeIs (by decide) ?_)
  refine wpAny_bind (wpAny_callSpecial?_slot (name := Str.ofString "__setitem__") hl.typeIs slot_list_setitem
    (wpAny_call_entry slot_list_setitem hl.typeIs entry_list_setitem ?_ (args_list_setitem _ _ _)))
  show wpAny _ _ (Builtin.List.listSubscript? (.int i t) >>= _) _ _ s
  refine wpAny_bind (wpAny_listSubscript_int (fitsIndex_of h0 hfit) ?_)
  clear hfit
  obtain ⟨j, rfl⟩ := Int.eq_ofNat_of_zero_le h0
  have hj : j < vs.toArray.size := by simpa using hn
  show wpAny _ _ ((seqItemAt l j >>= fun r => pure (r.map (j, ·))) >>= _) _ _ s
  refine wpAny_bind (wpAny_bind (wpAny_seqItemAt ho rfl (wpAny_pure ?_)))
  rw [Array.getElem?_eq_getElem hj]
  show wpAny _ _ (setSeqItemAt l j v >>= _) _ _ s
  obtain ⟨n', e'⟩ := upd_get (fun xs => xs.setIfInBounds j v) ho (ws := vs.set j v) (by simp)
  refine wpAny_bind (wpAny_setSeqItemAt ho rfl ?_)
  have q : Q () { s with heap := s.heap.update l (Obj.mapSeq (·.setIfInBounds j v)) } := hQ _ n' (upd_other _) e'
  first
    | exact wpAny_bind (wpAny_pure (wpAny_pure ⟨.none, rfl, wpAny_pure q⟩))
    | exact wpAny_pure ⟨.none, rfl, wpAny_pure q⟩


theorem St.ownAt (x : St c PE G s k m vars) {y : Str} {d : D} {a : Addr} (hx : vars.lookup y = some (true, d)) (hm : m y = some (.ref a)) : Own c G s.heap (.ref a) d := by
  obtain ⟨v, h1, h2⟩ := x.val y true d hx
  rw [hm] at h1
  cases h1
  exact h2
theorem St.ref (x : St c PE G s k m vars) {y : Str} {d : D} (hx : vars.lookup y = some (true, d)) : ∃ a, m y = some (.ref a) := let ⟨a, h, _⟩ := x.own hx; ⟨a, h⟩
theorem Own.lstAt {h : Heap} {a : Addr} {l : List D} (x : Own c G h (.ref a) (.lst l)) : ∃ vs n, h.get? a = some (lstO vs n) ∧ IsL c G vs l := by
  cases x with
  | lst _ _ h g => exact ⟨_, _, h, g⟩
theorem Own.off {h : Heap} {a : Addr} {d : D} (x : Own c G h (.ref a) d) : G.get? a = none ∧ a ≠ c.fa := by
  cases x with
  | lst h1 h2 _ _ => exact ⟨h1, h2⟩
  | dct h1 h2 _ _ _ => exact ⟨h1, h2⟩
theorem St.turnL (x : St c PE G s k m vars) {y : Str} {d : D} {l' : List D} {vs' : List Value} {n' : Nat} {a : Addr} {h' : Heap} (tk : Nat) (hx : vars.lookup y = some (true, d)) (hm : m y = some (.ref a))
    (hs : ∀ b o, b ≠ a → s.heap.get? b = some o → h'.get? b = some o) (ho : h'.get? a = some (lstO vs' n')) (hI : IsL c G vs' l') :
    St c PE G { s with heap := h', toks := tk } k m (vset y true (.lst l') vars) ∧ Go c PE G G s { s with heap := h', toks := tk } m m vars (vset y true (.lst l') vars) :=
  x.turn tk hx hm hs (let w := (x.ownAt hx hm).off; .lst w.1 w.2 ho hI)
theorem Yl.ownL {o : Option (Bool × D)} : Yl cl (ownL o) fun l => o = some (true, .lst l) ∧ l.length ≤ lim := by
  cases o with
  | none => exact .fail
  | some q =>
    obtain ⟨b, d⟩ := q
    cases b <;> cases d
    case true.lst l => exact .ask fun h => .ret ⟨rfl, dec h⟩
    all_goals exact .fail
theorem Yl.ownD {o : Option (Bool × D)} : Yl cl (ownD o) fun l => o = some (true, .dct l) ∧ l.length ≤ lim := by
  cases o with
  | none => exact .fail
  | some q =>
    obtain ⟨b, d⟩ := q
    cases b <;> cases d
    case true.dct l => exact .ask fun h => .ret ⟨rfl, dec h⟩
    all_goals exact .fail
/-- a store by a place -/
structure StoP (c : Cx) (PE : Env) (vars : Vars) (y : Str) (i d : D) (vars' : Vars) : Prop where
  own : ∃ d0, vars.lookup y = some (true, d0)
  run : ∀ (A : Around) (G : Heap) (s : Shared) (k : Nat) (m : Str → Option Value) (iv v : Value) (a : Addr) (E : Value → Shared → Prop) (Q : Unit → Shared → Prop), St c PE G s k m vars → Is c G iv i → Is c G v d → m y = some (.ref a) →
    (∀ h' tk, St c PE G { s with heap := h', toks := tk } k m vars' → Go c PE G G s { s with heap := h', toks := tk } m m vars vars' → Q () { s with heap := h', toks := tk }) → wpAny (Mo c) A (setItem (.ref a) iv v) Q E s
theorem sto_lst {y : Str} {l : List D} {j : Int} {d : D} (hx : vars.lookup y = some (true, .lst l)) (hl : l.length ≤ lim) (hj : 0 ≤ j ∧ j < l.length) : StoP c PE vars y (.int j) d (vset y true (.lst (l.set j.toNat d)) vars) :=
  ⟨⟨_, hx⟩, fun A G s k m iv v a E Q x hi hd hm hQ => by
    obtain ⟨vs, n, g3, g4⟩ := (x.ownAt hx hm).lstAt
    obtain ⟨j, rfl⟩ := Int.eq_ofNat_of_zero_le hj.1
    cases hi
    have hlt : j < l.length := Int.ofNat_lt.mp hj.2
    exact setItem_lst g3 hj.1 (Int.lt_of_lt_of_le (Int.ofNat_lt.mpr (Nat.lt_of_lt_of_le hlt hl)) (by decide)) (g4.1 ▸ hlt) fun h' n' hs e => (x.turnL s.toks hx hm hs e (g4.set hd _)).elim (hQ h' s.toks)⟩
theorem dct_nodup {h : Heap} {a : Addr} {kvs : List (Str × Value)} (g : h.DictOf (PySem.strKind c.prog c.w) a kvs) : (kvs.map (·.1)).Nodup := by
  obtain ⟨o, es, ep, _, _, _, _, _, hnd⟩ := g
  exact hnd
theorem sto_dct {y sk : Str} {l : List (Str × D)} {d : D} (hx : vars.lookup y = some (true, .dct l)) (hl : l.length ≤ lim) : StoP c PE vars y (.str sk) d (vset y true (.dct (dset sk d l)) vars) :=
  ⟨⟨_, hx⟩, fun A G s k m iv v a E Q x hi hd hm hQ => by
    cases x.ownAt hx hm with
    | @dct _ kvs _ g1 g2 g0 g3 g4 =>
      cases hi
      exact wpAny_setItem_pairs (k := sk) (strKind_is _ _ _ _) g3 (fun h' hd' hs => (x.turn (s.toks + 1) hx hm (fun b o hb e => hs.extBut b o hb e) (.dct g1 g2 g0 hd' (g4.put hd sk (dct_nodup g3)))).elim (hQ h' _)) (by rw [g4.length]; exact lim_size hl)⟩
theorem sto_snd (y : Str) (i d : D) : Yl cl (storeD vars y i d) (StoP c PE vars y i d) := by
  cases i
  case int j => exact .bind .ownL fun l h => .ask fun hj => .ret (sto_lst h.1 h.2 (dec hj))
  case str sk => exact .bind .ownD fun l h => .ret (sto_dct h.1 h.2)
  all_goals exact .fail

/-! statements that store -/
theorem interactive_false (h : PE.scope.kind = .function) : interactive PE = false := by unfold interactive; rw [h]; rfl
/-- a method of an own list upon one argument -/
theorem own_meth {x : Str} {px ap cp : Pos} {e : Expr} {mm : Str} {l : List D} {id : String} {y : Bool × D × Nat} {Q : Value → Shared → Prop} (hx : vars.lookup x = some (true, .lst l)) (st : St c PE G s k m vars) (hA : AOk κ A) (hl : isLoc PE.scope.names x = true) (hs : sameLine ap cp = true)
    (sl : Slot "list" mm id) (ht : typeOf (.builtin id) = pure (.type "method_descriptor")) (h : EvP c κ PE vars k e y)
    (hq : ∀ v s₁ G₁ a vs n, St c PE G₁ s₁ y.2.2 m vars → StepE c G G₁ s s₁ → m x = some (.ref a) → s₁.heap.get? a = some (lstO vs n) → IsL c G₁ vs l → Is c G₁ v y.2.1 → wpAny (Mo c) A (call (.builtin id) [.ref a, v]) Q NoE s₁) :
    wpAny (Mo c) A (eval (.Call (.Attribute (.Name x px) mm ap) [e] [] cp) PE) Q NoE s := by
  obtain ⟨a, g1⟩ := st.ref hx
  have g2 := st.ownAt hx g1
  obtain ⟨vs, n, hv, _⟩ := g2.lstAt
  refine methodCall_any rfl hs ?_ (by show 1 < 29; decide) (st.fr.load hl g1 fun pl => h.meth1 sl ht hA st hv fun v s₁ G₁ o₁ t₁ i₁ => ?_)
  · rw [starEach_cons (noStarE h.pl)]
    rfl
  · obtain ⟨vs, n, hv, hI⟩ := (g2.step t₁).lstAt
    exact hq v s₁ G₁ a vs n (st.step t₁ o₁) t₁ g1 hv hI i₁
theorem s_mutE {x : Str} {px ap cp pos : Pos} {e : Expr} {mm : Str} {l l' : List D} {y : Bool × D × Nat} (hl : isLoc PE.scope.names x = true) (hs : sameLine ap cp = true) (hx : vars.lookup x = some (true, .lst l)) (hz : l.length ≤ lim)
    (h : EvP c κ PE vars k e y) (g : MutP c mm l y.2.1 l') : StP T0 c κ PE (.Expr (.Call (.Attribute (.Name x px) mm ap) [e] [] cp) pos) vars k (.nxt, vset x true (.lst l') vars, y.2.2) := fun A G s m hA st => by
  obtain ⟨id, sl, ht, g⟩ := g
  refine wpAny_Expr (own_meth hx st.st hA hl hs sl ht h fun v s₁ G₁ a vs n st₁ t₁ hm hv hI i₁ => ?_) (interactive_false st.st.fr.kind) rfl
  exact g.run A G₁ s₁ _ a vs n v _ _ st₁.ok hv hI i₁ hz fun h' vs' n' hs' e' hI' => (st₁.turnL s₁.toks hx hm hs' e' hI').elim fun x' t' => ⟨G₁, m, ⟨x', trivial⟩, (Go.ofE t₁).trans t', .nxt⟩
end
end Mine

-- G13
namespace Mine

section
variable {c : Cx} {PE : Env} {G G' : Heap} {s s' s₁ : Shared} {k k' : Nat} {m : Str → Option Value} {vars vars' : Vars} {κ : Nat} {A : Around} {cl : Cl} {e : Expr}
theorem swaps_comp (elt : Expr) (gens : List Comprehension) (sc : Scope) (p py : Pos) (y : Str) (line : Nat) : ∃ b, swapsWith (.ListComp elt gens sc p) (some (.Name y py)) line PE = pure b := ⟨_, rfl⟩
theorem swaps_sub (e o i : Expr) (p : Pos) (line : Nat) : swapsWith e (some (.Subscript o i p)) line PE = pure false := by
  cases e <;> rfl

theorem St.fresh (x : St c PE G s k m vars) {a : Addr} (h : s.heap.get? a = none) : ¬ FHot PE a ∧ ∀ z d, vars.lookup z = some (true, d) → m z ≠ some (.ref a) :=
  ⟨fun q => x.fr.live q h, fun z d h1 h2 => by
    obtain ⟨a', g1, _, _, _, g5⟩ := x.own h1
    rw [h2] at g1; cases g1
    exact g5 h⟩
/-- a name takes what was yielded -/
noncomputable def AsP (c : Cx) (κ : Nat) (PE : Env) (vars : Vars) (k : Nat) (e : Expr) (x : Bool × D × Nat) : Prop :=
  ∀ (y : Str) (py pos : Pos) A G s m, isLoc PE.scope.names y = true → AOk κ A → St c PE G s k m vars → wpAny (Mo c) A (exec (.Assign [.Name y py] e pos) PE) (PostJ T0 c PE G s m vars (.nxt, vset y (x.1 && ownNames.contains y) x.2.1 vars, x.2.2)) NoE s
theorem as_plain (hi : CInj PE) {x : Bool × D × Nat} (h : EvP c κ PE vars k e x) (hs : ∀ y py line, swapsWith e (some (.Name y py)) line PE = pure false) : AsP c κ PE vars k e x :=
  fun y py pos A G s m hl hA st => wpAny_Assign_Name (wseq (h.run A G s m hA st) fun v s₁ p => st.putS hi hl p) (hs y py _)
/-- `x = [.. for ..]` with the comprehension's own block -/
theorem comp_used {elt iter : Expr} {x y : Str} {px py pos spos : Pos} {ifs : List Expr} {scope : Scope} {u z : List Mine.D × Nat} (hsw : swapsWith (.ListComp elt [⟨.Name x px, iter, ifs, 0⟩] scope pos) (some (.Name y py)) spos.line PE = pure true)
    (hso : scopeOk PE.scope.names x scope = true) (x₀ : St c PE G s k m vars) (hi : CInj PE) (hA : AOk κ A) (h : SrP c κ PE vars k iter u) (hl : u.1.length ≤ lim)
    (g : ∀ PE' : Env, PE'.scope.names = relab PE.scope.names scope.names → CmP c κ PE' x vars ifs elt u.2 u.1 z) (hy : isLoc PE.scope.names y = true) :
    wpAny (Mo c) A (exec (.Assign [.Name y py] (.ListComp elt [⟨.Name x px, iter, ifs, 0⟩] scope pos) spos) PE) (PostJ T0 c PE G s m vars (.nxt, vset y (true && ownNames.contains y) (.lst z.1) vars, z.2)) NoE s := by
  rw [exec_Assign_Name_used _ _ _ _ hsw]
  refine wpAny_bind (wpAny_standAt (wpAny_bind ?_))
  show wpAny _ A (do let _ ← comprehension (.ListComp elt [⟨.Name x px, iter, ifs, 0⟩] scope pos) scope PE _ (newList []) false (eval iter PE) (some (assign (.Name y py) PE))) _ _ s
  refine wpAny_bind (wpAny_mono (comp_core (use := some (assign (.Name y py) PE)) (Q := fun _ s' => PostJ T0 c PE G s m vars (.nxt, vset y (true && ownNames.contains y) (.lst z.1) vars, z.2) .next s') hso x₀ hA (noSetE h.pl) hl (h.run A G s m hA x₀) g fun G' s' D C o t w hD hC gC nC hDC hns => ?_)
    (fun _ s' hq => wpAny_pure (wpAny_pure hq)) fun _ _ e => e)
  obtain ⟨G₁, o₁, t₁, r₁, gC₁⟩ : ∃ G₁, Ok c G₁ s' z.2 ∧ StepE c G G₁ s s' ∧ VR c G₁ s'.heap (true && ownNames.contains y) (.ref D) (.lst z.1) ∧ G₁.get? C = none := by
    cases ownNames.contains y with
    | true => exact ⟨G', o, t, w, gC⟩
    | false =>
      obtain ⟨G₁, q1, q2, q3, q4, _⟩ := frzD o t w hD
      exact ⟨G₁, q1, q2, q3, q4 C (Ne.symm hDC) gC⟩
  clear w o t gC
  have fD := x₀.fresh hD
  have fC := x₀.fresh hC
  show wpAny (Mo c) A (assign (.Name y py) PE (.ref D)) _ NoE s'
  refine wpAny_assign_Name ((x₀.step t₁ o₁).store hi hy r₁ (fun ho a e => by cases e; exact ⟨fD.1, fun z d _ => fD.2 z d⟩) (Go.ofE t₁) (fun ho a e => .inr (by cases e; exact hD)) fun h' tk h1 h2 h3 => ?_)
  obtain ⟨ml, hml⟩ := hns
  refine ⟨ml, hml.at' fun ob e => h3 C ob fC.1 e, fun h'' hs => ?_⟩
  have hk : ∀ b o, b ≠ C → h'.get? b = some o → h''.get? b = some o := fun b o hb e => hs.extBut b o hb e
  refine ⟨G₁, _, ⟨h1.other tk hk gC₁ nC fC.1 fun w d e1 e2 => ?_, trivial⟩, h2.other tk hk hC, .nxt⟩
  rcases vs_any e1 with ⟨rfl, _, _⟩ | ⟨hz, e1⟩
  · rw [upd_eq] at e2
    cases e2
    exact hDC rfl
  · rw [upd_ne hz] at e2
    exact fC.2 w d e1 e2
theorem asg_snd {n : Nat} (T : TbOk c) (H : GoodCl c κ cl) (hi : CInj PE) (e : Expr) : Yl cl (evE c.tb (n + 1) PE.scope.names vars k e) (AsP c κ PE vars k e) := by
  have S := evE_snd T H n
  show Yl cl (evV c.tb (evE c.tb n) PE.scope.names vars k (viewE e)) _
  generalize viewE e = v
  cases v with
  | com elt x px iter ifs scope pos =>
    exact .gd fun hso => .bind ((S PE vars).src T k iter) fun y h => .ask fun hz => .sub fun z e => by
      have g : ∀ PE' : Env, PE'.scope.names = relab PE.scope.names scope.names → CmP c κ PE' x vars ifs elt y.2 y.1 z := fun PE' hPE => comp_turns (fun d => hPE ▸ S PE' _) ifs elt y.1 y.2 z e
      refine .ret fun w py spos A G s m hl hA st => ?_
      obtain ⟨b, hb⟩ := swaps_comp (PE := PE) elt [⟨.Name x px, iter, ifs, 0⟩] scope pos py w spos.line
      cases b with
      | false => exact wpAny_Assign_Name (wseq ((j_com hso h (dec hz) g).run A G s m hA st) fun v s₁ p => st.putS hi hl p) hb
      | true => exact comp_used hb hso st hi hA h (dec hz) g hl
  | bad e => exact .fail
  | _ => exact (evV_snd T H S _).mono fun x h => as_plain hi h fun _ _ _ => rfl

theorem s_asg {x : Bool × D × Nat} {y : Str} {py pos : Pos} (h : AsP c κ PE vars k e x) (hl : isLoc PE.scope.names y = true) : StP T0 c κ PE (.Assign [.Name y py] e pos) vars k (.nxt, vset y (x.1 && ownNames.contains y) x.2.1 vars, x.2.2) :=
  fun A G s m hA st => h y py pos A G s m hl hA st.st

/-! pop, stores, the feed -/
theorem Yl.popD {l : List D} {i : D} : Yl cl (popD l i) fun r => ∃ j : Nat, i = .int j ∧ l[j]? = some r.1 ∧ r.2 = l.eraseIdx j := .bind .asI fun j e => .ask fun h => .opt fun r hr => by
  obtain ⟨j, rfl⟩ := Int.eq_ofNat_of_zero_le (dec h).1
  exact .ret ⟨j, e, hr, rfl⟩
theorem pop_call {E : Value → Shared → Prop} {a : Addr} {l : List D} {vs : List Value} {n j : Nat} {v : Value} {r : D} (ho : s.heap.get? a = some (lstO vs n)) (hI : IsL c G vs l) (hv : Is c G v (.int j)) (hl : l.length ≤ lim) (hr : l[j]? = some r) {Q : Value → Shared → Prop}
    (hq : ∀ u h' n', (∀ b o, b ≠ a → s.heap.get? b = some o → h'.get? b = some o) → Is c G u r → h'.get? a = some (lstO (vs.eraseIdx j) n') → IsL c G (vs.eraseIdx j) (l.eraseIdx j) → Q u { s with heap := h' }) :
    wpAny (Mo c) A (call (.builtin "list.pop") [.ref a, v]) Q E s := by
  cases hv with
  | int _ t =>
    obtain ⟨u, g1, g2⟩ := hI.get hr
    have hj : j < vs.length := (List.getElem?_eq_some_iff.mp g1).1
    obtain ⟨n', e'⟩ := upd_get (fun xs => xs.eraseIdxIfInBounds j) ho (ws := vs.eraseIdx j) (by
      apply Array.toList_inj.mp
      simp [Array.eraseIdxIfInBounds, hj])
    have hfit : Builtin.List.listFitsIndex (j : Int) = true := fitsIndex_of (Int.natCast_nonneg j) (Int.lt_of_lt_of_le (Int.ofNat_lt.mpr (Nat.lt_of_lt_of_le hj (hI.1 ▸ hl))) (by decide))
    have hz := hI.fits hl
    have hs : seqIndex? (j : Int) vs.toArray.size = some j := by
      have := seqIndex_nat (i := (j : Int)) (n := vs.toArray.size) (Int.natCast_nonneg j) (by rw [Int.toNat_natCast]; exact hj)
      rwa [Int.toNat_natCast] at this
    clear hr hl hj
    generalize (j : Int) = i at hfit hs ⊢
    refine call_meets PySem.F.slot_list_pop ⟨_, ho, rfl⟩ PySem.F.entry_list_pop (PySem.F.args_list_pop_2 _ _)
      (PySem.MeetsSeq.list_pop_at a vs.toArray n i t j u hfit hs (List.getElem?_toArray.trans g1) hz) ⟨ho, ?_⟩
    exact hq _ _ _ (upd_other _) g2 e' (hI.eraseIdx _)
theorem s_pop (hi : CInj PE) {x y : Str} {py px ap cp pos : Pos} {l : List D} {i : Bool × D × Nat} {j : Nat} {r : D} (hl : isLoc PE.scope.names x = true) (hs : sameLine ap cp = true) (hx : vars.lookup x = some (true, .lst l)) (hz : l.length ≤ lim)
    (h : EvP c κ PE vars k e i) (hj : i.2.1 = .int j) (hr : l[j]? = some r) (hy : isLoc PE.scope.names y = true) :
    StP T0 c κ PE (.Assign [.Name y py] (.Call (.Attribute (.Name x px) ("pop" : Str) ap) [e] [] cp) pos) vars k (.nxt, vset y (false && ownNames.contains y) r (vset x true (.lst (l.eraseIdx j)) vars), i.2.2) := fun A G s m hA st =>
  wpAny_Assign_Name (own_meth hx st.st hA hl hs PySem.F.slot_list_pop PySem.F.type_list_pop h fun v s₁ G₁ a vs n st₁ t₁ hm hv hI i₁ =>
    pop_call hv hI (hj ▸ i₁) hz hr fun u h' n' hs' hu ho' hI' => (st₁.turnL s₁.toks hx hm hs' ho' hI').elim fun x' t' =>
      wpAny_mono (x'.putS hi hy (PostE.here x'.ok hu)) (fun _ s₂ q => q.trans ((Go.ofE t₁).trans t')) fun _ _ e => e) rfl
theorem s_sto {x : Str} {px p pos : Pos} {i : Expr} {v j : Bool × D × Nat} (hl : isLoc PE.scope.names x = true) (h1 : EvP c κ PE vars k e v) (h2 : EvP c κ PE vars v.2.2 i j) (h3 : StoP c PE vars x j.2.1 v.2.1 vars') :
    StP T0 c κ PE (.Assign [.Subscript (.Name x px) i p] e pos) vars k (.nxt, vars', j.2.2) := fun A G s m hA st => by
  obtain ⟨d0, hx⟩ := h3.own
  obtain ⟨a, g1⟩ := st.st.ref hx
  exact wpAny_Assign_Subscript (h1.use hA st.st fun v s₁ G₁ o₁ t₁ i₁ => (st.st.step t₁ o₁).fr.load hl g1 (h2.use hA (st.st.step t₁ o₁) fun iv s₂ G₂ o₂ t₂ i₂ =>
    h3.run _ _ _ _ _ _ _ _ _ _ ((st.st.step t₁ o₁).step t₂ o₂) i₂ (i₁.mono t₂.le) g1 fun h' tk x' t' => ⟨G₂, m, ⟨x', trivial⟩, (Go.ofE (t₁.trans t₂)).trans t', .nxt⟩)) (swaps_sub _ _ _ _ _)
theorem isFeedAt_some {v : Option (Bool × D)} {j d : D} {k : Nat} (h : isFeedAt v j d k = true) : v = some (false, .feed) ∧ j = .str (⟨#[97, 116]⟩ : Str) ∧ d = .int (Int.ofNat (k + 1)) := by
  obtain ⟨h1, h2⟩ := and2 h
  obtain ⟨h2, h3⟩ := and2 h2
  refine ⟨?_, ?_, ?_⟩
  · cases v with
    | none => exact nopB <| h1
    | some q =>
      obtain ⟨b, d⟩ := q
      cases b <;> cases d <;> first | rfl | exact nopB <| h1
  · cases j <;> first | exact congrArg D.str (eq_of_beq h2) | exact nopB <| h2
  · cases d <;> first | exact congrArg D.int (eq_of_beq h3) | exact nopB <| h3
/-- the feed turns on -/
theorem Ok.turn (o : Ok c G s k) {h' : Heap} {tk : Nat} {u : Tok} {u2 : Tok} (hd : h'.DictOf (PySem.strKind c.prog c.w) c.fa [(("cells" : Str), .ref c.ca), (("at" : Str), .int (Int.ofNat (k + 1)) u), (("mix" : Str), .int c.mix u2)]) (hs : Heap.SameBut c.fa s.heap h') :
    Ok c G { s with heap := h', toks := tk } (k + 1) ∧ StepE c G G s { s with heap := h', toks := tk } := by
  have hk : ∀ b ob, b ≠ c.fa → s.heap.get? b = some ob → h'.get? b = some ob := fun b ob hb e => hs.extBut b ob hb e
  refine ⟨⟨fun a ob e => hk a ob (fun q => by rw [q, o.nofa] at e; cases e) (o.sub a ob e), o.base, o.nofa, ⟨u, u2, hd⟩⟩, Sub.rfl', fun _ _ e => .inl e, fun a ob h1 _ e => hk a ob h1 e, fun a e => ?_, rfl, rfl, rfl⟩
  show h'.get? a ≠ none
  by_cases q : a = c.fa
  · obtain ⟨ob, es, ep, e', _⟩ := hd
    rw [q, e']
    exact fun h => nopO h
  · obtain ⟨ob, z⟩ := Option.ne_none_iff_exists'.mp e
    rw [hk a ob q z]
    exact fun h => nopO h
/-- feed["at"] = feed["at"] + 1 -/
theorem s_fd {x : Str} {px p pos : Pos} {i : Expr} {v j : Bool × D × Nat} (hl : isLoc PE.scope.names x = true) (h1 : EvP c κ PE vars k e v) (h2 : EvP c κ PE vars v.2.2 i j) (h3 : isFeedAt (vars.lookup x) j.2.1 v.2.1 j.2.2 = true) :
    StP T0 c κ PE (.Assign [.Subscript (.Name x px) i p] e pos) vars k (.nxt, vars, j.2.2 + 1) := fun A G s m hA st => by
  obtain ⟨hx, e1, e2⟩ := isFeedAt_some h3
  rw [s_feed.2.1] at e1
  obtain ⟨u, hv, iv⟩ := st.st.val _ _ _ hx
  have iv : Is c G u .feed := iv
  cases iv
  refine wpAny_Assign_Subscript (h1.use hA st.st fun v s₁ G₁ o₁ t₁ i₁ => (st.st.step t₁ o₁).fr.load hl hv (h2.use hA (st.st.step t₁ o₁) fun iv s₂ G₂ o₂ t₂ i₂ => ?_)) (swaps_sub _ _ _ _ _)
  rw [e2] at i₁
  rw [e1] at i₂
  cases i₁
  cases i₂
  obtain ⟨u1, u2, hd⟩ := o₂.feed
  refine wpAny_setItem_pairs (k := ("at" : Str)) (strKind_is _ _ _ _) hd (fun h' hd' hs => ?_) (by simp [sizeLine_eq])
  obtain ⟨o, t⟩ := o₂.turn (tk := s₂.toks + 1) hd' hs
  exact ⟨G₂, m, ⟨((st.st.step t₁ o₁).step t₂ o₂).step t o, trivial⟩, Go.ofE ((t₁.trans t₂).trans t), .nxt⟩
end
end Mine

-- G14
namespace Mine
structure PV where
  x : Str
  v : Value
  o : Bool
  d : D
noncomputable def vsets (ps : List PV) (vars : Vars) : Vars := ps.foldl (fun vs p => vset p.x p.o p.d vs) vars

theorem vsets_out : ∀ (ps : List PV) (vars : Vars) (z : Str), (∀ p ∈ ps, p.x ≠ z) → (vsets ps vars).lookup z = vars.lookup z
  | [], vars, z, _ => rfl
  | p :: r, vars, z, h => by
    show (vsets r (vset p.x p.o p.d vars)).lookup z = _
    rw [vsets_out r _ z fun q hq => h q (List.mem_cons_of_mem _ hq), vset_lookup, if_neg (Ne.symm (h p List.mem_cons_self))]
theorem vsets_in (ps : List PV) : ∀ (vars : Vars) (p : PV), (ps.map (·.x)).Nodup → p ∈ ps → (vsets ps vars).lookup p.x = some (p.o, p.d) := by
  induction ps with
  | nil => exact fun _ _ _ h => absurd h List.not_mem_nil
  | cons q r ih =>
    intro vars p hn hp
    obtain ⟨hn1, hn2⟩ := List.nodup_cons.mp hn
    show (vsets r (vset q.x q.o q.d vars)).lookup p.x = _
    rcases List.mem_cons.mp hp with e | hp
    · subst e
      rw [vsets_out r _ _ fun q hq e => hn1 (by show p.x ∈ _; rw [← e]; exact List.mem_map_of_mem (f := (·.x)) hq), vset_lookup, if_pos rfl]
    · exact ih _ p hn2 hp
theorem vsets_rev (ps : List PV) (vars : Vars) (hn : (ps.map (·.x)).Nodup) (z : Str) : (vsets ps vars).lookup z = (vsets ps.reverse vars).lookup z := by
  have hn' : (ps.reverse.map (·.x)).Nodup := by rw [List.map_reverse, List.nodup_iff_pairwise_ne, List.pairwise_reverse]; exact hn.imp fun h => Ne.symm h
  by_cases h : ∃ p ∈ ps, p.x = z
  · obtain ⟨p, hp, rfl⟩ := h
    rw [vsets_in ps vars p hn hp, vsets_in ps.reverse vars p hn' (List.mem_reverse.mpr hp)]
  · have h' : ∀ p ∈ ps, p.x ≠ z := fun p hp e => h ⟨p, hp, e⟩
    rw [vsets_out ps vars z h', vsets_out ps.reverse vars z fun p hp => h' p (List.mem_reverse.mp hp)]


noncomputable def mkPV (xs : List Str) (vs : List Value) (ds : List (Bool × D)) : List PV := (xs.zip (vs.zip ds)).map fun q => ⟨q.1, q.2.1, q.2.2.1 && ownNames.contains q.1, q.2.2.2⟩
theorem mkPV_x {xs : List Str} {vs : List Value} {ds : List (Bool × D)} (h1 : xs.length = ds.length) (h2 : vs.length = ds.length) : (mkPV xs vs ds).map (·.x) = xs := by
  unfold mkPV
  rw [List.map_map]
  exact List.map_fst_zip (by rw [List.length_zip, h2, Nat.min_self]; exact Nat.le_of_eq h1)
theorem mkPV_v {xs : List Str} {vs : List Value} {ds : List (Bool × D)} (h1 : xs.length = ds.length) (h2 : vs.length = ds.length) : (mkPV xs vs ds).map (·.v) = vs := by
  unfold mkPV
  rw [List.map_map]
  have : (List.map (Prod.fst ∘ Prod.snd) (xs.zip (vs.zip ds))) = vs := by
    rw [← List.map_map, List.map_snd_zip (by rw [List.length_zip, h2, Nat.min_self]; exact Nat.le_of_eq h1.symm), List.map_fst_zip (Nat.le_of_eq h2)]
  exact this
theorem mkPV_len {xs : List Str} {vs : List Value} {ds : List (Bool × D)} (h1 : xs.length = ds.length) (h2 : vs.length = ds.length) : (mkPV xs vs ds).length = xs.length := by
  have := congrArg List.length (mkPV_x h1 h2)
  rwa [List.length_map] at this
/-- names bound one by one -/
structure BaP (sc : Kinds) (xs : List Str) (ds : List (Bool × D)) (vars vars' : Vars) : Prop where
  len : xs.length = ds.length
  loc : ∀ x ∈ xs, isLoc sc x = true
  out : ∀ vs : List Value, vs.length = ds.length → vars' = vsets (mkPV xs vs ds) vars
theorem bindAll_snd {cl : Cl} {sc : Kinds} (xs : List Str) : ∀ (ds : List (Bool × D)) (vars : Vars), Yl cl (bindAll sc xs ds vars) (BaP sc xs ds vars) := by
  induction xs with
  | nil =>
    intro ds vars
    cases ds with
    | nil => exact .ret ⟨rfl, nofun, fun _ _ => rfl⟩
    | cons _ _ => exact .fail
  | cons x xs ih =>
    intro ds vars
    cases ds with
    | nil => exact .fail
    | cons d ds => exact .bind .bindV fun v h => (ih ds v).mono fun v' g => ⟨congrArg (· + 1) g.len, fun y hy => (List.mem_cons.mp hy).elim (fun e => e ▸ h.1) (g.loc y), fun vs hv => by
        cases vs with
        | nil => exact nomatch hv
        | cons u vs => rw [g.out vs (Nat.succ.inj hv), h.2]; rfl⟩
theorem nameOf_or (e : Expr) : nameOf e = none ∨ e = .Name ((nameOf e).getD ⟨#[]⟩) e.pos := by
  cases e <;> first | exact .inl rfl | exact .inr rfl
theorem nameOf_of {e : Expr} {x : Str} (h : nameOf e = some x) : ∃ p, e = .Name x p := by
  rcases nameOf_or e with q | q
  · rw [h] at q; cases q
  · rw [h] at q; exact ⟨_, q⟩
/-- targets that are names -/
inductive Nms : List Expr → List Str → Prop
  | nil : Nms [] []
  | cons (x : Str) (p : Pos) {ts : List Expr} {xs : List Str} (h : Nms ts xs) : Nms (.Name x p :: ts) (x :: xs)
theorem Nms.of : ∀ {ts : List Expr} {xs : List Str}, targetNames ts = some xs → Nms ts xs := by
  intro ts
  induction ts with
  | nil => intro xs h; cases h; exact .nil
  | cons t r ih =>
    intro xs h
    obtain ⟨x, h1, h⟩ := Option.bind_eq_some_iff.mp h
    obtain ⟨ys, h2, rfl⟩ := Option.map_eq_some_iff.mp h
    obtain ⟨p, rfl⟩ := nameOf_of h1
    exact .cons x p (ih h2)
theorem Nms.len {ts : List Expr} {xs : List Str} (h : Nms ts xs) : xs.length = ts.length := by
  induction h with
  | nil => rfl
  | cons x p h ih => exact congrArg (· + 1) ih
theorem Nms.each {PE : Env} {ts : List Expr} {xs : List Str} (h : Nms ts xs) : (assignEach ts PE).length = ts.length ∧ (assignEach ts PE).findIdx? (·.1) = none := by
  induction h with
  | nil => exact ⟨rfl, rfl⟩
  | cons x p h ih =>
    refine ⟨congrArg (· + 1) ih.1, ?_⟩
    show List.findIdx? _ ((false, assign (.Name x p) PE) :: assignEach _ PE) = none
    rw [List.findIdx?_cons, ih.2]
    rfl
theorem Nms.fn {PE : Env} {ts : List Expr} {xs : List Str} (h : Nms ts xs) : ∀ (i : Nat) f x, ((assignEach ts PE).map (·.2))[i]? = some f → xs[i]? = some x → ∃ p, f = assign (.Name x p) PE := by
  induction h with
  | nil => exact fun i f x e => nopO <| e
  | cons x p h ih =>
    intro i f y e1 e2
    cases i with
    | zero =>
      cases e1
      cases e2
      exact ⟨p, rfl⟩
    | succ i => exact ih i f y e1 e2

section
variable {c : Cx} {PE : Env} {G G' : Heap} {s s' s₁ : Shared} {k k' : Nat} {m m' : Str → Option Value} {vars vars' : Vars} {κ : Nat} {A : Around} {cl : Cl} {e : Expr}
theorem St.congr (x : St c PE G s k m vars) (h : ∀ z, vars'.lookup z = vars.lookup z) : St c PE G s k m vars' :=
  ⟨x.ok, x.fr, x.hotG, fun z o d e => x.val z o d (by rw [← h]; exact e), fun z z' d d' a e1 e2 => x.sep z z' d d' a (by rw [← h]; exact e1) (by rw [← h]; exact e2), fun z d a e => x.hot z d a (by rw [← h]; exact e)⟩
theorem Go.congr {vars₁ : Vars} (x : Go c PE G G' s s' m m' vars vars') (h : ∀ z, vars₁.lookup z = vars'.lookup z) : Go c PE G G' s s' m m' vars vars₁ :=
  ⟨x.step, fun a ⟨z, d, e1, e2⟩ => x.own a ⟨z, d, by rw [← h]; exact e1, e2⟩⟩

/-- what is stored, name by name -/
structure PVOk (c : Cx) (PE : Env) (G : Heap) (s₀ s : Shared) (m : Str → Option Value) (vars : Vars) (p : PV) : Prop where
  loc : isLoc PE.scope.names p.x = true
  val : VR c G s.heap p.o p.v p.d
  new : p.o = true → ∀ a, p.v = .ref a → s₀.heap.get? a = Option.none ∧ ¬ FHot PE a ∧ ∀ z d, vars.lookup z = some (true, d) → m z ≠ some (.ref a)
noncomputable def Apart (p q : PV) : Prop := p.o = true → q.o = true → p.v ≠ q.v

theorem store_all (hi : CInj PE) {G₀ : Heap} {s₀ : Shared} {m₀ : Str → Option Value} {vars₀ : Vars} {E : Value → Shared → Prop} : ∀ (ps : List PV) (fs : List (Value → Sem Unit)) (s : Shared) (m : Str → Option Value) (vars : Vars),
    fs.length = ps.length → (∀ (i : Nat) f p, fs[i]? = some f → ps[i]? = some p → ∀ (v : Value) (Q : Unit → Shared → Prop) (s : Shared), wpAny (Mo c) A (storeName PE p.x v) Q E s → wpAny (Mo c) A (f v) Q E s) →
    (∀ p ∈ ps, PVOk c PE G s₀ s m vars p) → ps.Pairwise Apart → St c PE G s k m vars → Go c PE G₀ G s₀ s m₀ m vars₀ vars →
    wpAny (Mo c) A (assignInOrder fs (ps.map (·.v))) (fun _ s' => ∃ m', St c PE G s' k m' (vsets ps vars) ∧ Go c PE G₀ G s₀ s' m₀ m' vars₀ (vsets ps vars)) E s
  | [], fs, s, m, vars, hl, _, _, _, st, t => by
    have : fs = [] := List.length_eq_zero_iff.mp hl
    subst this
    exact wpAny_pure ⟨m, st, t⟩
  | p :: r, [], s, m, vars, hl, _, _, _, st, t => by cases hl
  | p :: r, f :: fs, s, m, vars, hl, hf, hp, ha, st, t => by
    have P := hp p List.mem_cons_self
    show wpAny (Mo c) A (do holding (r.map (·.v)) (f p.v); assignInOrder fs (r.map (·.v))) _ E s
    refine wpAny_bind (wpAny_holding (hf 0 f p rfl rfl _ _ _ (st.store hi P.loc P.val (fun ho a e => ?_) t (fun ho a e => .inr (P.new ho a e).1) fun h' tk h1 h2 h3 => ?_)))
    · exact ⟨(P.new ho a e).2.1, fun z d _ h1 => (P.new ho a e).2.2 z d h1⟩
    · refine store_all hi r fs _ _ _ (by simpa using hl) (fun i f q e1 e2 => hf (i + 1) f q (by simpa using e1) (by simpa using e2)) (fun q hq => ?_) (List.pairwise_cons.mp ha).2 h1 h2
      have Q := hp q (List.mem_cons_of_mem _ hq)
      have ap := (List.pairwise_cons.mp ha).1 q hq
      refine ⟨Q.loc, ?_, fun ho a e => ⟨(Q.new ho a e).1, (Q.new ho a e).2.1, fun z d g1 g2 => ?_⟩⟩
      · exact Q.val.keepAt (FHot PE) h3 fun ho a e => (Q.new ho a e).2.1
      · rcases vs_any g1 with ⟨rfl, hpo, _⟩ | ⟨hz, g1⟩
        · rw [upd_eq] at g2
          exact ap hpo.symm ho ((Option.some.inj g2).trans e.symm)
        · rw [upd_ne hz] at g2
          exact (Q.new ho a e).2.2 z d g1 g2
theorem draw_lst {it l : Addr} {items : Array Value} (hne : l ≠ it) : ∀ (n i : Nat) (s : Shared) (Q : List Value → Shared → Prop) {E : Value → Shared → Prop}, s.heap.IsListIter it l i → s.heap.IsList l items → i + n ≤ items.size →
    (∀ h', h'.IsListIter it l (i + n) → Heap.SameBut it s.heap h' → Q ((items.toList.drop i).take n) { s with heap := h' }) → wpAny (Mo c) A (draw (.ref it) n) Q E s
  | 0, i, s, Q, _, hit, _, _, hQ => by
    show wpAny _ _ (pure []) Q _ s
    exact wpAny_pure (by simpa using hQ s.heap hit (Heap.SameBut.refl ..))
  | n + 1, i, s, Q, _, hit, hl, hle, hQ => by
    have hlt : i < items.size := by omega
    show wpAny _ _ (pyNext (.ref it) >>= _) Q _ s
    refine wpAny_bind (wpAny_pyNext_list_item hit hl (x := items[i]) (by simp [hlt]) fun h₁ hit₁ hs₁ => ?_)
    refine wpAny_bind (wpAny_holding (draw_lst hne n (i + 1) _ _ hit₁ (hl.extBut hs₁.extBut hne) (by omega) fun h₂ hit₂ hs₂ => wpAny_pure ?_))
    have hd : items.toList.drop i = items[i] :: items.toList.drop (i + 1) := by simp [List.drop_eq_getElem_cons, hlt]
    have := hQ h₂ (by rw [show i + (n + 1) = i + 1 + n by omega]; exact hit₂) (hs₁.trans hs₂)
    rw [hd, List.take_succ_cons] at this
    exact this

theorem unpackItems_lst {E : Value → Shared → Prop} {t : Addr} {items : Array Value} {Q : List Value → Shared → Prop} (hh : A.handled = none) (ht : s.heap.IsList t items)
    (hQ : ∀ h', Heap.ExtBut s.heap.objs.size s.heap h' → Q items.toList { s with heap := h' }) : wpAny (Mo c) A (unpackItems (.ref t) items.size none) Q E s := by
  have hlt : t ≠ s.heap.objs.size := by obtain ⟨o, ho, _⟩ := ht; exact Nat.ne_of_lt (Heap.lt_size ho)
  unfold unpackItems
  refine wpAny_bind ?_
  unfold notIterableAtAll
  refine wpAny_bind (wpAny_specialOf ht.typeIs PySem.F.slot_list_iter.lookup ?_)
  refine wpAny_pure ?_
  simp only [Bool.false_eq_true, if_false]
  refine wpAny_bind (wpAny_holding (wpAny_pyIter_list ht ?_))
  refine wpAny_bind (wpAny_holding (draw_lst hlt items.size 0 _ _ ⟨_, Heap.get?_push_size _ rfl, rfl, rfl⟩ (ht.push _) (by omega) fun h₁ hit₁ hs₁ => ?_))
  have hall : List.take items.size (List.drop 0 items.toList) = items.toList := by
    rw [List.drop_zero]; exact List.take_of_length_le (by simp)
  rw [hall]
  rw [if_neg (by simp)]
  have ht₁ : h₁.IsList t items := (ht.push _).extBut hs₁.extBut hlt
  refine wpAny_bind (wpAny_holding (wpAny_pyNext_list_end hh hit₁ ht₁ (by simp) fun h₂ he₂ => ?_))
  simp only [Option.isSome_none, Bool.false_eq_true, if_false]
  exact wpAny_pure (hQ h₂ fun b o hb e => he₂ b o hb (hs₁.extBut b o hb (Heap.get?_push_of_some _ e)))

theorem ext_keep {h h' : Heap} (e : Heap.ExtBut h.objs.size h h') : ∀ b o, h.get? b = some o → h'.get? b = some o := fun b o q => e b o (fresh_ne q) q


theorem unpackItems_snd {E : Value → Shared → Prop} {v : Value} {d : D} {l : List D} (o : Ok c G s k) (i : Is c G v d) (h : d = .lst l ∨ d = .tup l) (hh : A.handled = none) {Q : List Value → Shared → Prop}
    (hq : ∀ items h', (∀ b o, s.heap.get? b = some o → h'.get? b = some o) → IsL c G items l → Q items { s with heap := h' }) : wpAny (Mo c) A (unpackItems v l.length none) Q E s := by
  rcases h with rfl | rfl
  · obtain ⟨a, vs, n, rfl, h1, h2⟩ := Now.lst o.sub (.inl i)
    rw [← h2.size]
    exact unpackItems_lst hh (isList_of h1) fun h' he => hq _ h' (ext_keep he) h2
  · obtain ⟨a, vs, n, rfl, h1, h2⟩ := Now.tup o.sub (.inl i)
    rw [← h2.size]
    exact wpAny_unpackItems_tuple hh (isTup_of h1) fun h' he => hq _ h' (ext_keep he) h2
theorem unpack_snd {E : Value → Shared → Prop} {v : Value} {d : D} {l : List D} {targets : List (Bool × (Value → Sem Unit))} {Q : Unit → Shared → Prop} (o : Ok c G s k) (i : Is c G v d) (h : d = .lst l ∨ d = .tup l) (hh : A.handled = none)
    (hn : targets.length = l.length) (hs : targets.findIdx? (·.1) = none) (hq : ∀ items h', (∀ b o, s.heap.get? b = some o → h'.get? b = some o) → IsL c G items l → wpAny (Mo c) A (assignInOrder (targets.map (·.2)) items) Q E { s with heap := h' }) :
    wpAny (Mo c) A (unpack v targets) Q E s := by
  unfold unpack
  rw [hn, hs]
  exact wpAny_bind (wpAny_holding (unpackItems_snd o i h hh hq))
theorem swapsSole_tuple (ts : List Expr) (q : Nat) (p : Pos) (e : Expr) (line : Nat) : swapsWithSole [.Tuple ts q p] e line PE = pure false := by
  cases e <;> rfl
theorem swapped_none (ts : List Expr) (q : Nat) (p : Pos) (e : Expr) : (!isTuple e) = true → swappedStores [.Tuple ts q p] e PE = pure none := by
  cases e <;> first | exact fun _ => rfl | exact fun h => nopB h
theorem Go.keepS (t : Go c PE G G' s s' m m' vars vars') {h' : Heap} (tk : Nat) (hk : ∀ b o, s'.heap.get? b = some o → h'.get? b = some o) : Go c PE G G' s { s' with heap := h', toks := tk } m m' vars vars' :=
  t.trans (Go.ofE (StepE.of_keep hk))
theorem St.keepS (x : St c PE G s k m vars) {h' : Heap} (tk : Nat) (hk : ∀ b o, s.heap.get? b = some o → h'.get? b = some o) : St c PE G { s with heap := h', toks := tk } k m vars :=
  x.step (StepE.of_keep hk) (x.ok.keep hk)
theorem mkPV_frozen {l : List D} {s₀ : Shared} : ∀ {xs : List Str} {vs : List Value}, IsL c G vs l → (∀ x ∈ xs, isLoc PE.scope.names x = true) → ∀ p ∈ mkPV xs vs (l.map fun d => (false, d)), PVOk c PE G s₀ s m vars p ∧ p.o = false := by
  induction l with
  | nil =>
    intro xs vs h hx p hp
    cases h.nil_inv
    cases xs <;> exact nomatch hp
  | cons d l ih =>
    intro xs vs h hx p hp
    cases xs with
    | nil => exact nomatch hp
    | cons x xs =>
      obtain ⟨v, r, rfl, h1, h2⟩ := h.cons_inv
      rcases List.mem_cons.mp hp with rfl | hp
      · exact ⟨⟨hx x List.mem_cons_self, h1, fun h => nopB h⟩, rfl⟩
      · exact ih h2 (fun y hy => hx y (List.mem_cons_of_mem _ hy)) p hp
theorem pairwise_frozen {ps : List PV} (h : ∀ p ∈ ps, p.o = false) : ps.Pairwise Apart := by
  induction ps with
  | nil => exact .nil
  | cons p r ih => exact .cons (fun q hq e => nopB <| (h p List.mem_cons_self).symm.trans e) (ih fun p hp => h p (List.mem_cons_of_mem _ hp))
/-- stores to names, one behind the other -/
theorem names_store (hi : CInj PE) {ts : List Expr} {xs : List Str} {ds : List (Bool × D)} {vs : List Value} (hn : Nms ts xs) (b : BaP PE.scope.names xs ds vars vars') (hv : vs.length = ds.length) {G₀ : Heap} {s₀ : Shared} {m₀ : Str → Option Value} {vars₀ : Vars}
    (hp : ∀ p ∈ mkPV xs vs ds, PVOk c PE G s₀ s m vars p) (ha : (mkPV xs vs ds).Pairwise Apart) (st : St c PE G s k m vars) (t : Go c PE G₀ G s₀ s m₀ m vars₀ vars) :
    wpAny (Mo c) A (assignInOrder ((assignEach ts PE).map (·.2)) vs) (fun _ s' => PostJ T0 c PE G₀ s₀ m₀ vars₀ (.nxt, vars', k) .next s') NoE s := by
  have main := store_all (A := A) (E := NoE) hi (mkPV xs vs ds) ((assignEach ts PE).map (·.2)) s m vars (by rw [List.length_map, hn.each.1, ← hn.len, mkPV_len b.len hv])
    (fun i f p hf hp' v Q s hw => by
      obtain ⟨pp, rfl⟩ := hn.fn i f p.x hf (by rw [← mkPV_x b.len hv, List.getElem?_map, hp']; rfl)
      exact wpAny_assign_Name hw) hp ha st t
  rw [mkPV_v b.len hv] at main
  exact wseq main fun _ s' ⟨m', h1, h2⟩ => by
    rw [← b.out vs hv] at h1 h2
    exact ⟨G, m', ⟨h1, trivial⟩, h2, .nxt⟩
/-- `a, b = e` where e is no written tuple -/
theorem s_unp (hi : CInj PE) {ts : List Expr} {q : Nat} {tp pos : Pos} {xs : List Str} {x : Bool × D × Nat} {l : List D} (hne : (!isTuple e) = true) (h1 : Nms ts xs) (h2 : EvP c κ PE vars k e x) (h3 : x.2.1 = .lst l ∨ x.2.1 = .tup l)
    (h4 : BaP PE.scope.names xs (l.map fun d => (false, d)) vars vars') : StP T0 c κ PE (.Assign [.Tuple ts q tp] e pos) vars k (.nxt, vars', x.2.2) := fun A G s m hA st =>
  Assign_Tuple (h2.use hA st.st fun v s₁ G₁ o₁ t₁ i₁ => by
    rw [arm_assign_Tuple]
    refine wpAny_bind (wpAny_standAt (unpack_snd o₁ i₁ h3 hA.handled (by rw [h1.each.1, ← h1.len, h4.len, List.length_map]) h1.each.2 fun items h' hk hI => ?_))
    have ok := mkPV_frozen (PE := PE) hI h4.loc (s₀ := s) (s := { s₁ with heap := h' }) (m := m) (vars := vars)
    exact names_store hi h1 h4 (by rw [List.length_map]; exact hI.1) (fun p hp => (ok p hp).1) (pairwise_frozen fun p hp => (ok p hp).2) ((st.st.step t₁ o₁).keepS s₁.toks hk) ((Go.ofE t₁).keepS s₁.toks hk)) (swapsSole_tuple _ _ _ _ _) (swapped_none _ _ _ _ hne)
end
end Mine

-- G15
namespace Mine

noncomputable def swName (PE : Env) (line : Nat) : Expr → Option Str
  | .Name id pos => if PE.kindOf id == some .local && pos.line == line then some id else none
  | _ => none
theorem swName_all {PE : Env} {line : Nat} {ts : List Expr} {xs : List Str} (h : Nms ts xs) : (ts.filterMap (swName PE line)).length ≤ ts.length ∧ ((ts.filterMap (swName PE line)).length = ts.length → ts.filterMap (swName PE line) = xs) := by
  induction h with
  | nil => exact ⟨Nat.le_refl _, fun _ => rfl⟩
  | @cons x p ts xs h ih =>
    have e0 : swName PE line (.Name x p) = if (PE.kindOf x == some .local && p.line == line) = true then some x else none := rfl
    rw [List.filterMap_cons, e0]
    cases PE.kindOf x == some .local && p.line == line
    · exact ⟨Nat.le_succ_of_le ih.1, fun e => absurd (show (ts.filterMap (swName PE line)).length = ts.length + 1 from e) (Nat.ne_of_lt (Nat.lt_succ_of_le ih.1))⟩
    · exact ⟨Nat.succ_le_succ ih.1, fun e => congrArg (x :: ·) (ih.2 (Nat.succ.inj e))⟩
theorem swapped_cases {PE : Env} {ts es : List Expr} {q q' : Nat} {p p' : Pos} {xs : List Str} (h : Nms ts xs) (hc : es.all (constantsAlone 8) = false) :
    swappedStores [.Tuple ts q p] (.Tuple es q' p') PE = pure none ∨ swappedStores [.Tuple ts q p] (.Tuple es q' p') PE = pure (some xs) := by
  have key := swName_all (PE := PE) (line := (ts.head?.map (·.pos.line)).getD 0) h
  have e0 : (fun e : Expr => match e with
      | .Name id pos => if PE.kindOf id == some .local && pos.line == (ts.head?.map (·.pos.line)).getD 0 then some id else none
      | _ => none) = swName PE ((ts.head?.map (·.pos.line)).getD 0) := by
    funext e; cases e <;> rfl
  unfold swappedStores
  dsimp only
  split
  · exact .inl rfl
  · split
    · exact .inl rfl
    · split
      · exact .inl rfl
      · rename_i h3
        split
        · exact .inl rfl
        · rw [hc]
          right
          have : (List.filterMap (swName PE ((ts.head?.map (·.pos.line)).getD 0)) ts) = xs := by
            refine key.2 ?_
            rw [← e0]
            rw [Bool.or_eq_true, not_or, bne_iff_ne, Decidable.not_not] at h3
            exact h3.1
          rw [← this, ← e0]
          rfl
/-- values one behind the other, each with its owner's mark -/
inductive EvRs (c : Cx) (κ : Nat) (PE : Env) (vars : Vars) : Nat → List Expr → List (Bool × D) × Nat → Prop
  | nil (k : Nat) : EvRs c κ PE vars k [] ([], k)
  | cons {k : Nat} {e : Expr} {r : List Expr} {x : Bool × D × Nat} {y : List (Bool × D) × Nat} (h : EvP c κ PE vars k e x) (t : EvRs c κ PE vars x.2.2 r y) : EvRs c κ PE vars k (e :: r) ((x.1, x.2.1) :: y.1, y.2)

section
variable {c : Cx} {PE : Env} {G G' : Heap} {s s' s₁ : Shared} {k k' : Nat} {m m' : Str → Option Value} {vars vars' : Vars} {κ : Nat} {A : Around} {cl : Cl} {e : Expr} {f : EvM}
theorem Snd.r (S : Snd c κ PE vars cl f) : ∀ es k, Yl cl (evR f k es) (EvRs c κ PE vars k es)
  | [], k => .ret (.nil k)
  | e :: r, k => .bind (S.ev k e) fun x h => .bind (Snd.r S r x.2.2) fun y t => .ret (.cons h t)
theorem EvRs.len {es : List Expr} {y : List (Bool × D) × Nat} (h : EvRs c κ PE vars k es y) : y.1.length = es.length := by
  induction h with
  | nil => rfl
  | cons h t ih => exact congrArg (· + 1) ih
/-- what a written tuple's values are, before they are stored -/
structure PvR (c : Cx) (G : Heap) (s₀ s : Shared) (xs : List Str) (vs : List Value) (ds : List (Bool × D)) : Prop where
  len : vs.length = ds.length
  val : ∀ p ∈ mkPV xs vs ds, VR c G s.heap p.o p.v p.d ∧ (p.o = true → ∀ a, p.v = .ref a → s₀.heap.get? a = none)
  apart : (mkPV xs vs ds).Pairwise Apart
theorem PvR.step {G₁ : Heap} {xs : List Str} {vs : List Value} {ds : List (Bool × D)} (p : PvR c G s s₁ xs vs ds) (t : StepE c G G₁ s₁ s') : PvR c G₁ s s' xs vs ds := ⟨p.len, fun q hq => ⟨(p.val q hq).1.step t, (p.val q hq).2⟩, p.apart⟩
theorem StepE.fresh (t : StepE c G G' s s') {a : Addr} (h : s'.heap.get? a = Option.none) : s.heap.get? a = Option.none := by
  cases q : s.heap.get? a with
  | none => rfl
  | some ob => exact absurd h (t.live a fun z => nopO <| q.symm.trans z)
theorem EvRs.use {es : List Expr} {y : List (Bool × D) × Nat} (h : EvRs c κ PE vars k es y) (pos : Pos) (hA : AOk κ A) {xs : List Str} (hl : xs.length = es.length) (x : St c PE G s k m vars) {Q : List Value → Shared → Prop}
    (g : ∀ vs s₁ G₁, Ok c G₁ s₁ y.2 → StepE c G G₁ s s₁ → PvR c G₁ s s₁ xs vs y.1 → Q vs s₁) : wpAny (Mo c) A (spliced (backTo pos (starEach es PE))) Q NoE s := by
  induction h generalizing G s Q xs with
  | nil k => exact wpAny_items_nil (g _ _ _ x.ok (.refl _ _) ⟨rfl, fun p hp => by cases xs <;> exact (nomatch hp), by cases xs <;> exact .nil⟩)
  | @cons k e r z y h t ih =>
    cases xs with
    | nil => exact nomatch hl
    | cons n xs =>
      refine wpAny_items_cons (wseq (h.run A G s m hA x) fun v s₁ p => ?_) (starEach_cons (noStarE h.pl))
      obtain ⟨G₁, o₁, t₁, r₁, f₁⟩ := p.mask (ownNames.contains n)
      refine ih (Nat.succ.inj hl) (x.step t₁ o₁) fun vs s₂ G₂ o₂ t₂ g₂ => g _ _ _ o₂ (t₁.trans t₂) ⟨congrArg (· + 1) g₂.len, fun p hp => ?_, .cons (fun q hq e1 e2 e3 => ?_) g₂.apart⟩
      · rcases List.mem_cons.mp hp with rfl | hp
        · exact ⟨r₁.step t₂, f₁⟩
        · exact ⟨(g₂.val p hp).1, fun ho a e => StepE.fresh t₁ ((g₂.val p hp).2 ho a e)⟩
      · have e1 : (z.1 && ownNames.contains n) = true := e1
        rw [e1] at r₁
        obtain ⟨a, rfl, h3, _⟩ := Own.live (h := s₁.heap) r₁
        exact h3 ((g₂.val q hq).2 e2 a e3.symm)
theorem PvR.ok {G₀ : Heap} {xs : List Str} {vs : List Value} {ds : List (Bool × D)} (p : PvR c G s s₁ xs vs ds) (st : St c PE G₀ s k m vars) (b : BaP PE.scope.names xs ds vars vars') : ∀ q ∈ mkPV xs vs ds, PVOk c PE G s s₁ m vars q := fun q hm =>
  ⟨b.loc q.x (by rw [← mkPV_x b.len p.len]; exact List.mem_map_of_mem (f := (·.x)) hm), (p.val q hm).1, fun ho a e => ⟨(p.val q hm).2 ho a e, st.fresh ((p.val q hm).2 ho a e)⟩⟩
/-- the stores from the last to the first -/
theorem names_rev (hi : CInj PE) {xs : List Str} {ds : List (Bool × D)} {vs : List Value} (hn : xs.Nodup) (b : BaP PE.scope.names xs ds vars vars') (hv : vs.length = ds.length) {G₀ : Heap} {s₀ : Shared} {m₀ : Str → Option Value} {vars₀ : Vars}
    (hp : ∀ p ∈ mkPV xs vs ds, PVOk c PE G s₀ s m vars p) (ha : (mkPV xs vs ds).Pairwise Apart) (st : St c PE G s k m vars) (t : Go c PE G₀ G s₀ s m₀ m vars₀ vars) :
    wpAny (Mo c) A (assignInOrder (xs.reverse.map fun n => bindName PE n) vs.reverse) (fun _ s' => PostJ T0 c PE G₀ s₀ m₀ vars₀ (.nxt, vars', k) .next s') NoE s := by
  have ex := mkPV_x b.len hv
  have main := store_all (A := A) (E := NoE) hi (mkPV xs vs ds).reverse (xs.reverse.map fun n => bindName PE n) s m vars (by rw [List.length_map, List.length_reverse, List.length_reverse, mkPV_len b.len hv])
    (fun i f p hf hp' v Q s hw => by
      have e1 : ((mkPV xs vs ds).reverse.map (·.x))[i]? = some p.x := by rw [List.getElem?_map, hp']; rfl
      rw [List.map_reverse, ex] at e1
      rw [List.getElem?_map, e1] at hf
      cases hf
      exact wpAny_bindName hw) (fun p hm => hp p (List.mem_reverse.mp hm)) (List.pairwise_reverse.mpr (ha.imp fun h e1 e2 e3 => h e2 e1 e3.symm)) st t
  rw [show (mkPV xs vs ds).reverse.map (·.v) = vs.reverse by rw [List.map_reverse, mkPV_v b.len hv]] at main
  have lk : ∀ z, vars'.lookup z = (vsets (mkPV xs vs ds).reverse vars).lookup z := fun z => by
    rw [b.out vs hv]
    exact vsets_rev _ _ (by rw [ex]; exact hn) z
  exact wseq main fun _ s' ⟨m', h1, h2⟩ => ⟨G, m', ⟨h1.congr lk, trivial⟩, h2.congr lk, .nxt⟩
theorem tup_made {es : List Expr} {q : Nat} {p : Pos} {y : List (Bool × D) × Nat} {xs : List Str} (h : EvRs c κ PE vars k es y) (hA : AOk κ A) (hl : xs.length = es.length) (hz : es.length ≤ lim) (x : St c PE G s k m vars) {Q : Value → Shared → Prop}
    (g : ∀ a vs s₁ G₁, Ok c G₁ s₁ y.2 → StepE c G G₁ s s₁ → s₁.heap.get? a = some (tupO vs 0) → PvR c G₁ s s₁ xs vs y.1 → Q (.ref a) s₁) : wpAny (Mo c) A (eval (.Tuple es q p) PE) Q NoE s :=
  wpAny_Tuple (h.use _ hA hl x fun vs s₁ G₁ o₁ t₁ r₁ => by
    have hk : ∀ b o, s₁.heap.get? b = some o → (s₁.heap.push (tupO vs 0)).get? b = some o := fun b o e => Heap.get?_push_of_some _ e
    exact ⟨by rw [r₁.len, h.len]; exact lim_size hz, g _ vs _ G₁ (o₁.keep (tk := s₁.toks) hk) (t₁.trans (StepE.of_keep (tk := s₁.toks) hk)) (Heap.get?_push_size _ rfl) (r₁.step (StepE.of_keep (tk := s₁.toks) hk))⟩)
/-- `a, b = x, y` -/
theorem s_tup2 (hi : CInj PE) {ts es : List Expr} {q q' : Nat} {tp tp' pos : Pos} {xs : List Str} {y : List (Bool × D) × Nat} (h1 : Nms ts xs) (hn : xs.Nodup) (hz : es.length ≤ lim) (hc : es.all (constantsAlone 8) = false) (h2 : EvRs c κ PE vars k es y)
    (h4 : BaP PE.scope.names xs y.1 vars vars') : StP T0 c κ PE (.Assign [.Tuple ts q tp] (.Tuple es q' tp') pos) vars k (.nxt, vars', y.2) := fun A G s m hA st => by
  have hl : xs.length = es.length := h4.len.trans h2.len
  rcases swapped_cases (PE := PE) (q := q) (q' := q') (p := tp) (p' := tp') h1 hc with hw | hw
  · refine Assign_Tuple (tup_made h2 hA hl hz st.st fun a vs s₁ G₁ o₁ t₁ hT r₁ => ?_) (swapsSole_tuple _ _ _ _ _) hw
    refine wpAny_assign_Tuple hA.handled (isTup_of hT) (by rw [h1.each.1, ← h1.len, h4.len, ← r₁.len]; rfl) h1.each.2 fun h' he => ?_
    have t := StepE.of_keep (c := c) (G := G₁) (tk := s₁.toks) (ext_keep he)
    have r := r₁.step t
    exact names_store hi h1 h4 r.len (r.ok st.st h4) r.apart ((st.st.step t₁ o₁).keepS s₁.toks (ext_keep he)) ((Go.ofE t₁).keepS s₁.toks (ext_keep he))
  · refine Assign_Tuple_swapped (tup_made h2 hA hl hz st.st fun a vs s₁ G₁ o₁ t₁ hT r₁ => ?_) (swapsSole_tuple _ _ _ _ _) hw
    rw [show xs.length = vs.toArray.size by rw [h4.len, ← r₁.len]; rfl]
    refine wpAny_unpackItems_tuple hA.handled (isTup_of hT) fun h' he => ?_
    have t := StepE.of_keep (c := c) (G := G₁) (tk := s₁.toks) (ext_keep he)
    have r := r₁.step t
    exact names_rev hi hn h4 r.len (r.ok st.st h4) r.apart ((st.st.step t₁ o₁).keepS s₁.toks (ext_keep he)) ((Go.ofE t₁).keepS s₁.toks (ext_keep he))

theorem assign_sub {M : Model} {E : Value → Shared → Prop} {env : Env} {o i : Expr} {pos : Pos} {v : Value} {Q : Unit → Shared → Prop}
    (h : wpAny M A (eval o env) (fun ov s₁ => wpAny M A (eval i env) (fun iv s₂ => wpAny M A (setItem ov iv v) Q E s₂) E s₁) E s) : wpAny M A (assign (.Subscript o i pos) env v) Q E s := fun Γ p hΓ => by
  simp only [assign_Subscript, Sem.wp_bind', Sem.wp_holding, Sem.wp_cmd_standAt, Sem.wp_release, Sem.wp_pure']
  exact Sem.wp_mono M Γ _ (fun ov p₁ s₁ h₁ => Sem.wp_mono M Γ _ (fun iv _ s₂ h₂ => h₂ Γ _ hΓ) (fun _ _ _ h' => h') _ _ (h₁ Γ p₁ hΓ)) (fun _ _ _ h' => h') _ _ (h Γ _ hΓ)


/-- `x["k"], y = e` -/
theorem s_tupS (hi : CInj PE) {x y sk : Str} {px cp sp py tp pos : Pos} {q kq : Nat} {v : Bool × D × Nat} {l : List D} {a b : D} {vars₁ : Vars} (hne : (!isTuple e) = true) (hl : isLoc PE.scope.names x = true) (hy : isLoc PE.scope.names y = true)
    (h2 : EvP c κ PE vars k e v) (hv : v.2.1 = .tup l) (hab : l = [a, b]) (h3 : StoP c PE vars x (.str sk) a vars₁) :
    StP T0 c κ PE (.Assign [.Tuple [.Subscript (.Name x px) (.Constant (.str sk) kq cp) sp, .Name y py] q tp] e pos) vars k (.nxt, vset y (false && ownNames.contains y) b vars₁, v.2.2) := fun A G s m hA st => by
  refine Assign_Tuple (h2.use hA st.st fun v s₁ G₁ o₁ t₁ i₁ => ?_) (swapsSole_tuple _ _ _ _ _) (swapped_none _ _ _ _ hne)
  rw [arm_assign_Tuple]
  refine wpAny_bind (wpAny_standAt (unpack_snd o₁ i₁ (.inr (hv.trans (congrArg _ hab))) hA.handled rfl rfl fun items h' hk hI => ?_))
  obtain ⟨va, r, rfl, ha, hI⟩ := hI.cons_inv
  obtain ⟨vb, r, rfl, hb, hI⟩ := hI.cons_inv
  cases hI.nil_inv
  have st₂ := (st.st.step t₁ o₁).keepS s₁.toks hk
  have t₂ := (Go.ofE (PE := PE) (m := m) (vars := vars) t₁).keepS s₁.toks hk
  obtain ⟨d0, hx⟩ := h3.own
  obtain ⟨ad, g1⟩ := st.st.ref hx
  show wpAny (Mo c) A (do holding [vb] (assign (.Subscript (.Name x px) (.Constant (.str sk) kq cp) sp) PE va); do holding [] (assign (.Name y py) PE vb); pure ()) _ _ _
  refine wpAny_bind (wpAny_holding (assign_sub (st₂.fr.load hl g1 (wpAny_Constant_str ?_))))
  refine h3.run _ _ _ _ _ _ _ _ _ _ (st₂.toks (s₁.toks + 1)) (.str _ _) ha g1 fun h₄ tk₄ x₄ t₄ => ?_
  exact wpAny_bind (wpAny_holding (wpAny_assign_Name (wpAny_mono (x₄.putS hi hy (PostE.here x₄.ok hb)) (fun _ s' p => wpAny_pure (p.trans ((t₂.trans (Go.ofE (.toks _))).trans t₄))) fun _ _ e => e)))
end
end Mine

-- G16
namespace Mine

/-- what a for goes over, and how -/
structure Fd where
  I : Addr
  zs : List Addr
  fp : List Addr
  items : List D
  W : Nat → Heap → Prop
  Pv : Nat → Value → Heap → Prop
structure FFix (c : Cx) (PE : Env) (A : Around) (t : Expr) (L : Fd) (s₁ : Shared) (m : Str → Option Value) (vars : Vars) : Prop where
  hz : ∀ b ∈ L.zs, s₁.heap.get? b = none
  hwl : ∀ i h, L.W i h → ∀ b ∈ L.zs, h.get? b ≠ none
  hfp : ∀ b ∈ L.fp, b ∈ L.zs ∨ (s₁.heap.get? b ≠ none ∧ b ≠ c.fa ∧ ¬ HotS PE m vars b)
  hfr : ∀ i h h', L.W i h → (∀ b ∈ L.fp, ∀ o, h.get? b = some o → h'.get? b = some o) → L.W i h'
  item : ∀ i (s : Shared) (Q : Option Value → Shared → Prop) (E : Value → Shared → Prop), i < L.items.length → L.W i s.heap →
      (∀ v h₁ tk, (∀ b o, b ∉ L.zs → s.heap.get? b = some o → h₁.get? b = some o) →
        (∀ (Q' : Unit → Shared → Prop) (E' : Value → Shared → Prop), (∀ h₂, L.W (i + 1) h₂ → (∀ b o, b ∉ L.zs → h₁.get? b = some o → h₂.get? b = some o) → L.Pv i v h₂ → Q' () { s with heap := h₂, toks := tk }) → wpAny (Mo c) A (letOwnedTupleGo t (.ref L.I) v) Q' E' { s with heap := h₁, toks := tk }) →
        Q (some v) { s with heap := h₁, toks := tk }) → wpAny (Mo c) A (pyNext (.ref L.I)) Q E s
  done : ∀ (s : Shared) (Q : Option Value → Shared → Prop) (E : Value → Shared → Prop), L.W L.items.length s.heap → (∀ h' tk, (∀ b o, b ∉ L.zs → s.heap.get? b = some o → h'.get? b = some o) → Q none { s with heap := h', toks := tk }) → wpAny (Mo c) A (pyNext (.ref L.I)) Q E s
/-- a for's turns -/
inductive FrP (J : Heap → (Str → Option Value) → Prop) (c : Cx) (κ : Nat) (PE : Env) (B : D → Vars → Vars → Prop) (body : List Stmt) : List D → Vars → Nat → Fl × Vars × Nat → Prop
  | nil {vs : Vars} {k : Nat} : FrP J c κ PE B body [] vs k (.nxt, vs, k)
  | on {d : D} {r : List D} {vs v : Vars} {k : Nat} {x y : Fl × Vars × Nat} (h : B d vs v) (g : BkP J c κ PE body v k x) (hx : x.1.goes = true) (w : FrP J c κ PE B body r x.2.1 x.2.2 y) : FrP J c κ PE B body (d :: r) vs k y
  | out {d : D} {r : List D} {vs v : Vars} {k : Nat} {x : Fl × Vars × Nat} (h : B d vs v) (g : BkP J c κ PE body v k x) (hx : x.1.goes = false) : FrP J c κ PE B body (d :: r) vs k x
/-- what binds an item -/
noncomputable def PutP (J : Heap → (Str → Option Value) → Prop) (c : Cx) (PE : Env) (A : Around) (t : Expr) (L : Fd) (G₁ : Heap) (B : D → Vars → Vars → Prop) : Prop :=
  ∀ i v d G s k m vars₁ vars₂ (Q : Unit → Shared → Prop), L.items[i]? = some d → L.Pv i v s.heap → Sub G₁ G → Sj J c PE G s k m vars₁ → B d vars₁ vars₂ →
    (∀ G' h' tk m', Sj J c PE G' { s with heap := h', toks := tk } k m' vars₂ → Go c PE G G' s { s with heap := h', toks := tk } m m' vars₁ vars₂ → Q () { s with heap := h', toks := tk }) → wpAny (Mo c) A (assign t PE v) Q NoE s

section
variable {J : Heap → (Str → Option Value) → Prop} {ok : Str → Bool} {c : Cx} {PE : Env} {G G' G₁ : Heap} {s s' s₁ : Shared} {k k' k₁ : Nat} {m m' m₁ : Str → Option Value} {vars vars' vars₁ : Vars} {κ : Nat} {A : Around} {cl : Cl} {r : Fl × Vars × Nat} {t : Expr} {L : Fd} {B : D → Vars → Vars → Prop} {body : List Stmt}
theorem evFor_snd {b : EvS} {bind : D → Vars → M Vars} (hb : ∀ d vs, Yl cl (bind d vs) (B d vs)) (S : ∀ vs k, Yl cl (b vs k) (BkP J c κ PE body vs k)) : ∀ l vs k, Yl cl (evFor b bind l vs k) (FrP J c κ PE B body l vs k)
  | [], vs, k => .ret .nil
  | d :: r, vs, k => .bind (hb d vs) fun v h => .bind (S v k) fun x g => by
    obtain ⟨fl, v', k'⟩ := x
    cases fl
    · exact (evFor_snd hb S r v' k').mono fun y w => .on h g rfl w
    · exact (evFor_snd hb S r v' k').mono fun y w => .on h g rfl w
    · exact .ret (.out h g rfl)
theorem for_rule {M : Program} {w : World} {it : Value} {R : Result → Shared → Prop} (I : Nat → Shared → Prop)
    (turn : ∀ n s, I n s → wpAny (model M w) A (pyNext it) (fun r s₁ => match r with
      | none => R (.ok .next) s₁
      | some v => wpAny (model M w) A (letOwnedTupleGo t it v) (fun _ s₂ => wpAny (model M w) A (assign t PE v) (fun _ s₃ => wpAny (model M w) A (execs body PE) (Tn I (fun f s => R (.ok f) s) n) NoE s₃) NoE s₂) NoE s₁) NoE s)
    (n : Nat) (h : I n s) : codeAny (model M w) A (.forLoop t it body [] PE) R s :=
  codeAny_forLoop_any I (fun n s h => wseq (turn n s h) fun r s₁ q => by
    cases r
    · exact wpAny_execs_nil q
    · exact wseq q fun _ s₂ q => wseq q fun _ s₃ q => wseq q fun f s₄ q => by cases f <;> exact q) n h
/-- a loop's own places: no name knows them -/
noncomputable def Off (c : Cx) (G : Heap) (m : Str → Option Value) (vars : Vars) (zs : List Addr) : Prop := ∀ b ∈ zs, G.get? b = none ∧ ¬ OwnA m vars b
theorem FFix.nfa (F : FFix c PE A t L s₁ m vars) (x₁ : St c PE G₁ s₁ k₁ m vars) : ∀ b ∈ L.zs, b ≠ c.fa := fun b hb e => x₁.ok.falive (e ▸ F.hz b hb)
theorem FFix.nF (F : FFix c PE A t L s₁ m vars) (x₁ : St c PE G₁ s₁ k₁ m vars) : ∀ b ∈ L.zs, ¬ FHot PE b := fun b hb q => x₁.fr.live q (F.hz b hb)
theorem FFix.off₁ (F : FFix c PE A t L s₁ m vars) (x₁ : St c PE G₁ s₁ k₁ m vars) : Off c G₁ m vars L.zs := fun b hb => by
  refine ⟨?_, fun ⟨z, d, e1, e2⟩ => (x₁.fresh (F.hz b hb)).2 z d e1 e2⟩
  cases q : G₁.get? b with
  | none => rfl
  | some o => exact nopO <| (x₁.ok.sub _ _ q).symm.trans (F.hz b hb)
theorem Off.go {zs : List Addr} (h : Off c G m vars zs) (t : Go c PE G G' s s' m m' vars vars') (hl : ∀ b ∈ zs, s.heap.get? b ≠ none) (hF : ∀ b ∈ zs, ¬ FHot PE b) : Off c G' m' vars' zs := fun b hb => by
  refine ⟨?_, fun q => (t.own b q).elim (h b hb).2 (hl b hb)⟩
  cases q : G'.get? b with
  | none => rfl
  | some o =>
    rcases t.step.new b o q with e | e | e
    · exact nopO <| (h b hb).1.symm.trans e
    · exact absurd e (hl b hb)
    · exact (e.elim (hF b hb) (h b hb).2).elim
theorem FFix.wGo (F : FFix c PE A t L s₁ m vars) (x₁ : St c PE G₁ s₁ k₁ m vars) {i : Nat} (w : L.W i s.heap) (t₀ : Go c PE G₁ G s₁ s m m₁ vars vars₁) (h : Off c G m₁ vars₁ L.zs) (t : Go c PE G G' s s' m₁ m' vars₁ vars') : L.W i s'.heap :=
  F.hfr _ _ _ w fun b hb o e => by
    rcases F.hfp b hb with q | ⟨q1, q2, q3⟩
    · exact t.step.keep b o (F.nfa x₁ b q) (fun z => z.elim (F.nF x₁ b q) (h b q).2) e
    · exact t.step.keep b o q2 (fun z => z.elim (fun z => q3 (.inl z)) fun z => (t₀.own b z).elim (fun z => q3 (.inr z)) q1) e
noncomputable def FI (J : Heap → (Str → Option Value) → Prop) (c : Cx) (κ : Nat) (PE : Env) (L : Fd) (B : D → Vars → Vars → Prop) (body : List Stmt) (G₁ : Heap) (s₁ : Shared) (m : Str → Option Value) (vars : Vars) (r : Fl × Vars × Nat) (n : Nat) (s : Shared) : Prop :=
  ∃ i G k m' vars₁, n = L.items.length + 1 - i ∧ i ≤ L.items.length ∧ Sj J c PE G s k m' vars₁ ∧ Go c PE G₁ G s₁ s m m' vars vars₁ ∧ L.W i s.heap ∧ Off c G m' vars₁ L.zs ∧ FrP J c κ PE B body (L.items.drop i) vars₁ k r
theorem Sj.others (x : Sj J c PE G s k m vars) (zs : List Addr) {h' : Heap} (tk : Nat) (hk : ∀ b o, b ∉ zs → s.heap.get? b = some o → h'.get? b = some o) (h : Off c G m vars zs) (hf : ∀ b ∈ zs, b ≠ c.fa) (hF : ∀ b ∈ zs, ¬ FHot PE b) : Sj J c PE G { s with heap := h', toks := tk } k m vars :=
  ⟨x.st.others zs tk hk (fun b hb => (h b hb).1) hf fun b hb q => q.elim (hF b hb) (h b hb).2, x.j⟩
theorem for_core {RR : Result → Shared → Prop} (F : FFix c PE A t L s₁ m vars) (hJ : JOk J ok) (x₁ : Sj J c PE G₁ s₁ k₁ m vars) (hA : AOk κ A) (put : PutP J c PE A t L G₁ B) (h : FrP J c κ PE B body L.items vars k₁ r) {h₂ : Heap} {tk : Nat}
    (hk₂ : ∀ b o, s₁.heap.get? b = some o → h₂.get? b = some o) (hW : L.W 0 h₂) (hR : ∀ f s', PostJ J c PE G₁ s₁ m vars r f s' → RR (.ok f) s') : codeAny (Mo c) A (.forLoop t (.ref L.I) body [] PE) RR { s₁ with heap := h₂, toks := tk } := by
  have nfa := F.nfa x₁.st
  have nF := F.nF x₁.st
  refine for_rule (FI J c κ PE L B body G₁ s₁ m vars r) ?_ (L.items.length + 1) ⟨0, G₁, k₁, m, vars, rfl, Nat.zero_le _, ⟨x₁.st.keepS tk hk₂, x₁.j⟩, (Go.ofE (.refl _ _)).keepS tk hk₂, hW, F.off₁ x₁.st, h⟩
  clear h hk₂ hW
  rintro n s ⟨i, G, k, m', vars₁, rfl, hi, x, t₀, w, off, he⟩
  by_cases hlt : i < L.items.length
  · refine F.item i s _ _ hlt w fun v h₁ tk₁ hk₁ hgo => hgo _ _ fun h₃ w₃ hk₃ hPv => ?_
    have hk : ∀ b o, b ∉ L.zs → s.heap.get? b = some o → h₃.get? b = some o := fun b o hb e => hk₃ b o hb (hk₁ b o hb e)
    have x₃ := x.others L.zs tk₁ hk off nfa nF
    have t₃ := t₀.others L.zs tk₁ hk F.hz
    clear hk₁ hgo hk₃ hk x t₀ w
    have w₃ : L.W (i + 1) ({ s with heap := h₃, toks := tk₁ } : Shared).heap := w₃
    have hPv : L.Pv i v ({ s with heap := h₃, toks := tk₁ } : Shared).heap := hPv
    generalize ({ s with heap := h₃, toks := tk₁ } : Shared) = s₃ at x₃ t₃ w₃ hPv ⊢
    rw [List.drop_eq_getElem_cons hlt] at he
    cases he with
    | on h g hx w' =>
      refine put i v _ G s₃ k m' vars₁ _ _ (List.getElem?_eq_getElem hlt) hPv t₃.step.le x₃ h fun G₄ h₄ tk₄ m₄ x₄ t₄ => ?_
      have w₄ := F.wGo x₁.st w₃ t₃ off t₄
      have off₄ := off.go t₄ (F.hwl _ _ w₃) nF
      exact wseq (g _ _ _ _ hA x₄) fun f s₅ q => q.tn hx fun G₅ m₅ x₅ t₅ => ⟨L.items.length + 1 - (i + 1), Nat.sub_lt_sub_left (Nat.lt_succ_of_lt hlt) (Nat.lt_succ_self i), i + 1, G₅, _, m₅, _, rfl, hlt, x₅, (t₃.trans t₄).trans t₅, F.wGo x₁.st w₄ (t₃.trans t₄) off₄ t₅, off₄.go t₅ (F.hwl _ _ w₄) nF, w'⟩
    | out h g hx =>
      exact put i v _ G s₃ k m' vars₁ _ _ (List.getElem?_eq_getElem hlt) hPv t₃.step.le x₃ h fun G₄ h₄ tk₄ m₄ x₄ t₄ => wseq (g _ _ _ _ hA x₄) fun f s₅ q => (q.trans (t₃.trans t₄)).tr hx (hR · s₅)
  · have hi' : i = L.items.length := Nat.le_antisymm hi (Nat.not_lt.mp hlt)
    subst hi'
    rw [List.drop_length] at he
    cases he
    exact F.done s _ _ w fun h' tk' hk' => hR _ _ ⟨G, m', x.others L.zs tk' hk' off nfa nF, t₀.others L.zs tk' hk' F.hz, .nxt⟩
end
end Mine

-- G17
namespace Mine

theorem en_ge {N b : Nat} (h : b ∈ [N + 1, N]) : N ≤ b := by
  rcases List.mem_cons.mp h with e | h
  · rw [e]; exact Nat.le_succ _
  · exact Nat.le_of_eq (List.mem_singleton.mp h).symm
theorem en_cases {N b : Nat} (h : b ∈ [N + 1, N]) : b = N + 1 ∨ b = N := (List.mem_cons.mp h).imp id List.mem_singleton.mp
theorem en_sub {N : Nat} : N ∈ [N + 1, N] := List.mem_cons_of_mem _ List.mem_cons_self
section
variable {J : Heap → (Str → Option Value) → Prop} {ok : Str → Bool} {c : Cx} {PE : Env} {G G' G₁ : Heap} {s s' s₁ : Shared} {k k' k₁ : Nat} {m m' : Str → Option Value} {vars vars' : Vars} {f : EvM} {κ : Nat} {A : Around} {cl : Cl} {r : Fl × Vars × Nat} {e t : Expr} {body : List Stmt}
theorem St.nothot_new (x : St c PE G s k m vars) {a : Addr} (h : s.heap.get? a = none) : ¬ HotS PE m vars a := fun q => q.elim (x.fresh h).1 fun ⟨z, d, e1, e2⟩ => (x.fresh h).2 z d e1 e2
theorem St.nothot_frz (x : St c PE G s k m vars) {a : Addr} {o : Obj} (h : G.get? a = some o) : ¬ HotS PE m vars a := fun q => by
  rcases q with q | ⟨z, d, e1, e2⟩
  · exact nopO <| h.symm.trans (x.hotG a q).1
  · obtain ⟨a', g1, _, _, g4, _⟩ := x.own e1
    rw [e2] at g1; cases g1
    exact nopO <| h.symm.trans g4
theorem Is.seq_addr {v : Value} {d : D} {l : List D} (i : Is c G v d) (h : d = .lst l ∨ d = .tup l) : ∃ a o, v = .ref a ∧ G.get? a = some o := by
  rcases h with rfl | rfl
  · cases i with
    | lst h1 _ _ => exact ⟨_, _, rfl, h1⟩
  · cases i with
    | tup h1 _ _ => exact ⟨_, _, rfl, h1⟩
/-- what a for goes over -/
structure SqP (J : Heap → (Str → Option Value) → Prop) (c : Cx) (κ : Nat) (PE : Env) (vars : Vars) (k : Nat) (e : Expr) (r : List D × Nat) : Prop where
  pl : Plain e = true
  run : ∀ A G s m, AOk κ A → Sj J c PE G s k m vars → wpAny (Mo c) A (eval e PE) (fun xv s₁ => ∃ G₁, Ok c G₁ s₁ r.2 ∧ StepE c G G₁ s s₁ ∧ IterOf c A G₁ s₁ xv r.1 ∧ ∀ b, xv = .ref b → ¬ HotS PE m vars b) NoE s
/-- a name bound to an item -/
noncomputable def BN (PE : Env) (y : Str) (d : D) (vs v : Vars) : Prop := isLoc PE.scope.names y = true ∧ v = vset y (false && ownNames.contains y) d vs
/-- the target is a name, bound to an item -/
noncomputable def BTy (PE : Env) (t : Expr) (d : D) (vs v : Vars) : Prop := ∃ y p, t = .Name y p ∧ BN PE y d vs v
theorem BTy.put (hi : CInj PE) (hJ : JOk J ok) (hy : ∀ y p, t = .Name y p → ok y = true) {L : Fd} (hP : ∀ i v h, L.Pv i v h → ∃ d, L.items[i]? = some d ∧ Is c G₁ v d) : PutP J c PE A t L G₁ (BTy PE t) := by
  intro i v d G s k m vars₁ vars₂ Q hd hv hs st hb hq
  obtain ⟨d', e1, e2⟩ := hP i v _ hv
  rw [hd] at e1
  cases e1
  obtain ⟨y, p, e, hl, rfl⟩ := hb
  have hy' := hy y p e
  subst e
  exact wpAny_assign_Name (st.st.put hi hl (PostE.here st.st.ok (e2.mono hs)) fun G' h' tk hs' a b _ => hq G' h' tk _ ⟨a, hJ.put _ _ _ _ hy' (hJ.mono _ _ _ hs' st.j)⟩ b)
theorem FrP.name {l : List D} (w : FrP J c κ PE (BTy PE t) body l vars k r) (hl : 0 < l.length) : ∃ y p, t = .Name y p := by
  cases w with
  | nil => exact absurd hl (Nat.not_lt_zero _)
  | on h => obtain ⟨y, p, e, _⟩ := h; exact ⟨y, p, e⟩
  | out h => obtain ⟨y, p, e, _⟩ := h; exact ⟨y, p, e⟩
theorem s_for (hi : CInj PE) (hJ : JOk J ok) {pos : Pos} (hy : ∀ y p, t = .Name y p → ok y = true) {l : List D × Nat} (h : SqP J c κ PE vars k e l) (w : FrP J c κ PE (BTy PE t) body l.1 vars l.2 r) : StP J c κ PE (.For t e body [] pos) vars k r := fun A G s m hA st =>
  wpAny_For (wseq (h.run A G s m hA st) fun xv s₁ p => by
    obtain ⟨G₁, o₁, t₁, it, hc⟩ := p
    have x₁ := st.step hJ t₁ o₁
    refine it _ _ fun I fp P W h₂ tk₂ hW hwl hI hk₂ hW0 hfp hP => ?_
    refine for_core (L := ⟨I, [I], fp, l.1, W, fun i v _ => ∃ d, l.1[i]? = some d ∧ Is c G₁ v d⟩) ⟨mem1 hI, fun i h w b hb => List.mem_singleton.mp hb ▸ hwl i h w, fun b hb => ?_, hW.frame, fun i s Q E hlt hst hq => ?_, fun s Q E hst hq => hW.done s Q E hst hq⟩ hJ x₁ hA (BTy.put hi hJ hy fun i v h q => q) w hk₂ hW0 fun f s' p => p.trans (Go.ofE t₁)
    · rcases hfp b hb with rfl | ⟨e1, e2, e3⟩
      · exact .inl (List.mem_singleton.mpr rfl)
      · exact .inr ⟨e1, e2, hc b e3⟩
    · obtain ⟨y, p, rfl⟩ := w.name (Nat.lt_of_le_of_lt (Nat.zero_le _) hlt)
      exact hW.item i s Q E hlt hst fun v h' tk hPv hW' hk => hq v h' tk hk fun Q' E' hq' => wpAny_of_eq rfl (hq' h' hW' (fun _ _ _ e => e) (hP i v hlt hPv))) (not_set_folded PE (noSetE h.pl))

/-! where a for's items come from -/
theorem EvP.sq {x : Bool × D × Nat} {l : List D} (h : EvP c κ PE vars k e x) (hl : x.2.1 = .lst l ∨ x.2.1 = .tup l) : SqP J c κ PE vars k e (l, x.2.2) :=
  ⟨h.pl, fun A G s m hA st => h.use hA st.st fun v s₁ G₁ o t i => by
    obtain ⟨a, ob, rfl, ha⟩ := i.seq_addr hl
    exact ⟨G₁, o, t, iter_seq o (.inl i) hl hA.handled, fun b q => by cases q; exact (st.st.step t o).nothot_frz ha⟩⟩
theorem str_sq {y : Str} {u : Nat} {p : Pos} : SqP J c κ PE vars k (.Constant (.str y) u p) (y.cps.toList.map fun ch => .str ⟨#[ch]⟩, k) :=
  ⟨rfl, fun A G s m hA st => wpAny_Constant_str ⟨G, st.st.ok.toks, .toks _, iter_str hA.handled, nofun⟩⟩
theorem range_sq {x : Bool × D × Nat} {i : Int} {p pos : Pos} (T : TbOk c) (hg : isGlob PE.scope.names (⟨#[114, 97, 110, 103, 101]⟩ : Str) = true) (h : EvP c κ PE vars k e x) (hi : x.2.1 = .int i) (h0 : 0 ≤ i ∧ i ≤ 4096) :
    SqP J c κ PE vars k (.Call (.Name (⟨#[114, 97, 110, 103, 101]⟩ : Str) p) [e] [] pos) (rangeD i.toNat, x.2.2) :=
  ⟨rfl, fun A G s m hA st => Call_ (st.st.bltn hg T.range.1 T.range.2 (callType1 h.pl (h.useI hi hA st.st fun t s₁ G₁ o₁ t₁ => by
    obtain ⟨n, rfl⟩ := Int.eq_ofNat_of_zero_le h0.1
    exact call_range_1 ⟨G₁, o₁.keep fun b o e => Heap.get?_push_of_some _ e, t₁.trans (StepE.of_keep fun b o e => Heap.get?_push_of_some _ e), iter_range (IsRange.new _ _ _ _ _ _ _) (Int.ofNat_le.mp h0.2) hA.handled, fun b e => by
      cases e
      exact st.st.nothot_new (StepE.fresh t₁ (fresh_size _))⟩)))⟩
/-- the empty list's enumerate, or a source -/
noncomputable def FsP (c : Cx) (κ : Nat) (PE : Env) (vars : Vars) (k : Nat) (e : Expr) (r : List D × Nat) : Prop :=
  SqP T0 c κ PE vars k e r ∨ (r.1 = [] ∧ ∃ p a q x, e = .Call (.Name (⟨#[101, 110, 117, 109, 101, 114, 97, 116, 101]⟩ : Str) p) [a] [] q ∧ isGlob PE.scope.names (⟨#[101, 110, 117, 109, 101, 114, 97, 116, 101]⟩ : Str) = true ∧ EvP c κ PE vars k a x ∧ x.2.1 = .lst [] ∧ r.2 = x.2.2)
theorem Snd.fsrc (S : Snd c κ PE vars cl f) (T : TbOk c) (k : Nat) (e : Expr) : Yl cl (evFSrc f PE.scope.names k e) (FsP c κ PE vars k e) := by
  unfold evFSrc
  cases hs : strOf e with
  | some y =>
    obtain ⟨u, p, rfl⟩ := strOf_of hs
    exact .gd fun _ => .ret (.inl str_sq)
  | none =>
    cases hc : call1 (viewE e) with
    | none => exact .bind (S.ev k e) fun x h => .bind .asL fun l q => .ret (.inl (h.sq q))
    | some q =>
      obtain ⟨p, pos, rfl⟩ := call1_of hc
      exact .gd fun hg => .cond (fun hr => .bind (S.ev k q.2) fun x h => .bind .range fun l ⟨i, e, h0, z⟩ => .ret (.inl (by
          obtain ⟨fn, a⟩ := q
          cases eq_of_beq hr
          subst z
          exact range_sq T hg h e h0))) fun _ =>
        .gd fun hn => .bind (S.ev k q.2) fun x h => .bind .asLst fun l e => .gd fun hl => .ret (.inr (by
          obtain ⟨fn, a⟩ := q
          cases eq_of_beq hn
          cases List.isEmpty_iff.mp hl
          exact ⟨rfl, _, _, _, _, rfl, hg, h, e, rfl⟩))
/-- a for that goes over nothing -/
theorem for_none (T : TbOk c) {a : Expr} {p q pos : Pos} {x : Bool × D × Nat} (hg : isGlob PE.scope.names (⟨#[101, 110, 117, 109, 101, 114, 97, 116, 101]⟩ : Str) = true) (h : EvP c κ PE vars k a x) (hx : x.2.1 = .lst []) : StP T0 c κ PE (.For t (.Call (.Name (⟨#[101, 110, 117, 109, 101, 114, 97, 116, 101]⟩ : Str) p) [a] [] q) body [] pos) vars k (.nxt, vars, x.2.2) := fun A G s m hA st =>
  wpAny_For (Call_ (st.st.bltn hg T.enum.1 T.enum.2 (callType1 h.pl (h.use hA st.st fun v s₁ G₁ o₁ t₁ i₁ => by
    rw [hx] at i₁
    have x₁ := st.step T0.ok t₁ o₁
    obtain ⟨la, vs, n, rfl, g, hI⟩ := Now.lst o₁.sub (.inl i₁)
    have nfa : la ≠ c.fa := Is.nofa o₁ (.inl i₁)
    obtain ⟨la', ob, e0, hG⟩ := i₁.seq_addr (.inl rfl)
    cases e0
    cases hI.nil_inv
    have hl := isList_of g
    refine call_enumerate_list hl fun h' he hit hsz hk => wpAny_pyIter_enum he ?_
    have fr : ∀ b, s₁.heap.objs.size ≤ b → s₁.heap.get? b = none := fun b hb => by
      cases q : s₁.heap.get? b with
      | none => rfl
      | some ob => exact absurd (Heap.lt_size q) (Nat.not_lt.mpr hb)
    refine for_core (tk := s₁.toks) (h₂ := h') (B := BN PE (⟨#[101, 110, 117, 109, 101, 114, 97, 116, 101]⟩ : Str)) (L := ⟨s₁.heap.objs.size + 1, [s₁.heap.objs.size + 1, s₁.heap.objs.size], [s₁.heap.objs.size + 1, s₁.heap.objs.size, la], [], fun i h => i = 0 ∧ IsEnum h (s₁.heap.objs.size + 1) s₁.heap.objs.size 0 .none ∧ h.IsListIter s₁.heap.objs.size la 0 ∧ h.IsList la #[], fun _ _ _ => False⟩)
      ⟨fun b hb => fr b (en_ge hb), fun i h w b hb => ?_, fun b hb => ?_, fun i h h'' w hk => ?_, fun i s Q E hlt hst hq => absurd hlt (Nat.not_lt_zero _), fun s Q E hst hq => ?_⟩ T0.ok x₁ hA (fun i v d G s k m vars₁ vars₂ Q hd hv => hv.elim) .nil hk ⟨rfl, he, hit, hl.at fun o e => hk _ _ e⟩ fun f s' p => p.trans (Go.ofE t₁)
    · obtain ⟨_, w1, ⟨o, w2, _⟩, _⟩ := w
      rcases en_cases hb with rfl | rfl
      · exact fun q => nopO <| w1.symm.trans q
      · exact fun q => nopO <| w2.symm.trans q
    · rcases List.mem_cons.mp hb with e | hb
      · exact .inl (e ▸ List.mem_cons_self)
      · rcases List.mem_cons.mp hb with e | hb
        · exact .inl (e ▸ List.mem_cons_of_mem _ List.mem_cons_self)
        · exact .inr (List.mem_singleton.mp hb ▸ ⟨fun q => (nopO <| g.symm.trans q), nfa, x₁.st.nothot_frz hG⟩)
    · obtain ⟨w0, w1, w2, w3⟩ := w
      exact ⟨w0, hk _ List.mem_cons_self _ w1, w2.at fun o e => hk _ (List.mem_cons_of_mem _ List.mem_cons_self) o e, w3.at fun o e => hk _ (List.mem_cons_of_mem _ (List.mem_cons_of_mem _ List.mem_cons_self)) o e⟩
    · obtain ⟨_, w1, w2, w3⟩ := hst
      exact wpAny_pyNext_enum_endD (Draws.list (by exact hA.handled) s₁.heap.objs.size la (fresh_ne g) #[]) w1 ⟨w2, w3⟩ fun h' hx => hq h' s.toks fun b o hb e => hx b o (fun q => hb (q ▸ en_sub)) e)))) (not_set_folded PE (noSetE rfl))
theorem Yl.bindT {t : Expr} {d : D} : Yl cl (bindT PE.scope.names t d vars) (BTy PE t d vars) := .bind (.lift fun y h => h) fun y h => Yl.bindV.mono fun v g => by
  obtain ⟨p, rfl⟩ := nameOf_of h
  exact ⟨y, p, rfl, g⟩
end
end Mine

-- G18
namespace Mine

theorem zapart {N l1 l2 : Nat} (h1 : l1 < N) (h2 : l2 < N) : ZipApart (N + 4) (N + 2) (N + 3) N (N + 1) l1 l2 :=
  ⟨@id ((N + 2 : Nat) ≠ N + 4) (by omega), @id ((N + 3 : Nat) ≠ N + 4) (by omega), @id ((N : Nat) ≠ N + 4) (by omega), @id ((N + 1 : Nat) ≠ N + 4) (by omega), @id ((N + 2 : Nat) ≠ N + 3) (by omega), @id ((N + 2 : Nat) ≠ N) (by omega), @id ((N + 2 : Nat) ≠ N + 1) (by omega),
   @id ((N + 3 : Nat) ≠ N) (by omega), @id ((N + 3 : Nat) ≠ N + 1) (by omega), @id ((N : Nat) ≠ N + 1) (by omega), @id ((l1 : Nat) ≠ N + 4) (by omega), @id ((l1 : Nat) ≠ N + 3) (by omega), @id ((l1 : Nat) ≠ N) (by omega), @id ((l1 : Nat) ≠ N + 1) (by omega),
   @id ((l2 : Nat) ≠ N + 4) (by omega), @id ((l2 : Nat) ≠ N + 3) (by omega), @id ((l2 : Nat) ≠ N) (by omega), @id ((l2 : Nat) ≠ N + 1) (by omega)⟩
theorem zsub {N b : Nat} (h : b ∈ [N + 4, N + 3, N, N + 1]) : b ∈ [N + 4, N + 2, N + 3, N, N + 1] := by
  simp at h ⊢
  rcases h with h | h | h | h <;> simp [h]
theorem zcases {N l1 l2 b : Nat} (h : b ∈ [N + 4, N + 2, N + 3, N, N + 1, l1, l2]) : b ∈ [N + 4, N + 2, N + 3, N, N + 1] ∨ b = l1 ∨ b = l2 := by
  simp at h ⊢
  rcases h with h | h | h | h | h | h | h <;> simp [h]
theorem zge {N b : Nat} (h : b ∈ [N + 4, N + 2, N + 3, N, N + 1]) : N ≤ b := by
  simp at h
  omega

noncomputable def pairsD (l r : List D) : List D := (l.zip r).map fun q => .tup [q.1, q.2]
theorem pairsD_at {l r : List D} {i : Nat} {d : D} (h : (pairsD l r)[i]? = some d) : ∃ a b, l[i]? = some a ∧ r[i]? = some b ∧ d = .tup [a, b] := by
  unfold pairsD at h
  rw [List.getElem?_map] at h
  obtain ⟨q, h1, rfl⟩ := Option.map_eq_some_iff.mp h
  have := List.getElem?_zip_eq_some.mp h1
  exact ⟨q.1, q.2, this.1, this.2, rfl⟩
/-- two names bound to a pair's parts -/
noncomputable def BP (PE : Env) (x y : Str) (d : D) (vs v : Vars) : Prop := ∃ a b w, d = .tup [a, b] ∧ BN PE x a vs w ∧ BN PE y b w v
section
variable {c : Cx} {PE : Env} {G G' G₁ : Heap} {s s' s₁ : Shared} {k k' : Nat} {m m' : Str → Option Value} {vars vars' : Vars} {κ : Nat} {A : Around} {cl : Cl} {r : Fl × Vars × Nat} {e t : Expr} {body : List Stmt}
theorem pair_of {l : List D} : Yl cl (pairD l) fun q => l = [q.1, q.2] := by
  match l with
  | [] => exact .fail
  | [_] => exact .fail
  | [a, b] => exact .ret rfl
  | _ :: _ :: _ :: _ => exact .fail
theorem Yl.bindP {x y : Str} {d : D} : Yl cl (bindP PE.scope.names x y d vars) (BP PE x y d vars) :=
  .bind .asTup fun l e => .bind pair_of fun q e' => .bind .bindV fun w h => Yl.mono .bindV fun v g => ⟨q.1, q.2, w, e.trans (congrArg _ e'), h, g⟩
theorem BP.put (hi : CInj PE) {x y : Str} {px py tp : Pos} {q : Nat} (hA : AOk κ A) {L : Fd} (hP : ∀ i v h, L.Pv i v h → ∃ Tt u w d e, v = .ref Tt ∧ h.IsTuple Tt #[u, w] ∧ L.items[i]? = some (.tup [d, e]) ∧ Is c G₁ u d ∧ Is c G₁ w e) :
    PutP T0 c PE A (.Tuple [.Name x px, .Name y py] q tp) L G₁ (BP PE x y) := by
  intro i v d G s k m vars₁ vars₂ Q hd hv hs st hb hq
  obtain ⟨Tt, u, w, d', e', rfl, hT, hd', hu, hw⟩ := hP i v _ hv
  rw [hd] at hd'
  cases hd'
  obtain ⟨a, b, vw, e0, ⟨l1, rfl⟩, l2, rfl⟩ := hb
  cases e0
  refine wpAny_assign_Tuple hA.handled hT rfl rfl fun h'' he => ?_
  have st' := st.st.keepS s.toks (ext_keep he)
  show wpAny (Mo c) A (do holding [w] (assign (.Name x px) PE u); do holding [] (assign (.Name y py) PE w); pure ()) _ _ _
  exact wpAny_bind (wpAny_holding (wpAny_assign_Name (st'.put hi l1 (PostE.here st'.ok (hu.mono hs)) fun G' h₁ tk s₁ x₂ t₂ _ =>
    wpAny_bind (wpAny_holding (wpAny_assign_Name (x₂.put hi l2 (PostE.here x₂.ok ((hw.mono hs).mono s₁)) fun G'' h₂ tk' _ x₃ t₃ _ => wpAny_pure (hq G'' h₂ tk' _ ⟨x₃, trivial⟩ (((Go.ofE (StepE.of_keep (tk := s.toks) (ext_keep he))).trans t₂).trans t₃))))))))
theorem s_zip (T : TbOk c) (hi : CInj PE) {x y a b : Str} {px py tp zp pa pb cp pos : Pos} {q : Nat} {u v : Bool × D × Nat} {l l' : List D} (hg : isGlob PE.scope.names (⟨#[122, 105, 112]⟩ : Str) = true) (h1 : EvP c κ PE vars k (.Name a pa) u) (h2 : EvP c κ PE vars u.2.2 (.Name b pb) v) (e1 : u.2.1 = .lst l) (e2 : v.2.1 = .lst l')
    (w : FrP T0 c κ PE (BP PE x y) body (pairsD l l') vars v.2.2 r) : StP T0 c κ PE (.For (.Tuple [.Name x px, .Name y py] q tp) (.Call (.Name (⟨#[122, 105, 112]⟩ : Str) zp) [.Name a pa, .Name b pb] [] cp) body [] pos) vars k r := fun A G s m hA st => by
  refine wpAny_For (Call_ (st.st.bltn hg T.zip.1 T.zip.2 (PySem.Pv.callWith_type1 ((Evs.cons h1 (.cons h2 (.nil _))).use _ hA st.st fun vs s₁ G₁ o₁ t₁ i₁ => ?_) (starEach_cons (noStarE h1.pl)) ((Evs.cons h2 (.nil _)).noStar _))))
  have x₁ := st.step T0.ok t₁ o₁
  rw [e1, e2] at i₁
  obtain ⟨va, vs, rfl, ia, i₁⟩ := i₁.cons_inv
  obtain ⟨vb, vs, rfl, ib, i₁⟩ := i₁.cons_inv
  cases i₁.nil_inv
  clear i₁ h1 h2
  obtain ⟨l1, ws, n1, rfl, g1, I1⟩ := Now.lst o₁.sub (.inl ia)
  obtain ⟨l2, us, n2, rfl, g2, I2⟩ := Now.lst o₁.sub (.inl ib)
  have old : ∀ {a : Addr} {l : List D}, Is c G₁ (.ref a) (.lst l) → s₁.heap.get? a ≠ none ∧ a ≠ c.fa ∧ ¬ HotS PE m vars a := fun i => by
    obtain ⟨a, ob, e, hG⟩ := i.seq_addr (.inl rfl)
    cases e
    exact ⟨fun q => (nopO <| (o₁.sub _ _ hG).symm.trans q), Is.nofa o₁ (.inl i), x₁.st.nothot_frz hG⟩
  have oa := old ia
  have ob := old ib
  have hl1 := isList_of g1
  have hl2 := isList_of g2
  have lt1 : l1 < s₁.heap.objs.size := Heap.lt_size g1
  have lt2 : l2 < s₁.heap.objs.size := Heap.lt_size g2
  clear old g1 g2 ia ib
  refine call_zip_2 hl1 hl2 fun h' hz hTI hTO hi1 hi2 hsz hk => wpAny_pyIter_zip hz ?_
  have fr : ∀ b, s₁.heap.objs.size ≤ b → s₁.heap.get? b = none := fun b hb => by
    cases q : s₁.heap.get? b with
    | none => rfl
    | some ob => exact absurd (Heap.lt_size q) (Nat.not_lt.mpr hb)
  have hl1' := hl1.at fun o e => hk _ _ e
  have hl2' := hl2.at fun o e => hk _ _ e
  generalize s₁.heap.objs.size = N at *
  have W := WalksT.zip2 (prog := c.prog) (w := c.w) hA.handled (N + 4) (N + 2) (N + 3) N (N + 1) l1 l2 (zapart lt1 lt2) ws.toArray us.toArray
  have hlen : (pairsD l l').length = min ws.toArray.size us.toArray.size := by
    rw [I1.size, I2.size]
    exact (List.length_map ..).trans (List.length_zip ..)
  refine for_core (tk := s₁.toks) (h₂ := h') (L := ⟨N + 4, [N + 4, N + 2, N + 3, N, N + 1], [N + 4, N + 2, N + 3, N, N + 1, l1, l2], pairsD l l',
      fun i h => IsZip h (N + 4) (N + 2) (N + 3) .none ∧ IsPair h (N + 2) (.ref N) (.ref (N + 1)) ∧ (∃ a b, IsPair h (N + 3) a b) ∧ h.IsListIter N l1 i ∧ h.IsListIter (N + 1) l2 i ∧ h.IsList l1 ws.toArray ∧ h.IsList l2 us.toArray,
      fun i v h => ∃ Tt u w d e, v = .ref Tt ∧ h.IsTuple Tt #[u, w] ∧ (pairsD l l')[i]? = some (.tup [d, e]) ∧ Is c G₁ u d ∧ Is c G₁ w e⟩)
    ⟨fun b hb => fr _ (zge hb), fun i h w b hb => ?_, fun b hb => ?_, fun i h h'' w hk => W.frame i h h'' w hk, fun i s Q E hlt hst hq => ?_, fun s Q E hst hq => ?_⟩ T0.ok x₁ hA (BP.put hi hA fun i v h q => q) w hk ⟨hz, hTI, ⟨_, _, hTO⟩, hi1, hi2, hl1', hl2'⟩ fun f s' p => p.trans (Go.ofE t₁)
  · obtain ⟨w1, w2, ⟨_, _, w3⟩, ⟨_, w4, _⟩, ⟨_, w5, _⟩, _⟩ := w
    intro z
    simp only [List.mem_cons, List.not_mem_nil, or_false] at hb
    rcases hb with rfl | rfl | rfl | rfl | rfl
    · exact nopO <| w1.symm.trans z
    · exact nopO <| w2.symm.trans z
    · exact nopO <| w3.symm.trans z
    · exact nopO <| w4.symm.trans z
    · exact nopO <| w5.symm.trans z
  · rcases zcases hb with hb | rfl | rfl
    · exact .inl hb
    · exact .inr oa
    · exact .inr ob
  · refine W.item i s Q E (hlen ▸ hlt) hst fun Tt vals h₁ tk hP hge hT hM hk₁ => ?_
    obtain ⟨u, w, e1, e2, rfl⟩ := hP
    refine hq _ h₁ tk (fun b o hb e => hk₁ b o (fun q => hb (zsub q)) e) fun Q' E' hq' => ?_
    refine W.go _ _ _ i Tt _ Q' E' hM fun h₂ hst₂ hk₂ => hq' h₂ hst₂ (fun b o hb e => hk₂ b o (fun q => hb (zsub q)) e) ?_
    obtain ⟨a, b, f1, f2, f3⟩ := pairsD_at (List.getElem?_eq_getElem hlt)
    exact ⟨Tt, u, w, a, b, rfl, hT.at fun o e => hk₂ _ o (W.apart _ _ _ hM) e, (List.getElem?_eq_getElem hlt).trans (congrArg some f3), I1.2 i _ _ (List.getElem?_toArray.symm.trans e1) f1, I2.2 i _ _ (List.getElem?_toArray.symm.trans e2) f2⟩
  · exact W.done s Q E (hlen ▸ hst) fun h' tk hk => hq h' tk fun b o hb e => hk b o (fun q => hb (zsub q)) e

theorem s_forS (T : TbOk c) (hi : CInj PE) {pos : Pos} {l : List D × Nat} (h : FsP c κ PE vars k e l) (w : FrP T0 c κ PE (BTy PE t) body l.1 vars l.2 r) : StP T0 c κ PE (.For t e body [] pos) vars k r := by
  rcases h with h | ⟨e1, p, a, q, x, rfl, hg, g, hx, e2⟩
  · exact s_for hi T0.ok (fun _ _ _ => rfl) h w
  · rw [e1, e2] at w
    cases w
    exact for_none T hg g hx
theorem evSV_snd {g : Stmt → EvS} (T : TbOk c) (H : GoodCl c κ cl) (hi : CInj PE) (B : SndS T0 c κ PE cl g) {st : Stmt} (v : SV st) : Yl cl (evSV c.tb PE.scope.names g vars k v) (StP T0 c κ PE st vars k) := by
  have S := evE_snd T H 40 PE
  cases v with
  | ret e p => exact .bind ((S _).ev k e) fun x h => .ret (s_ret h)
  | cont p => exact .ret fun A G s m hA x => wpAny_Continue (.here x .cont)
  | «mut» x px mm ap e cp p => exact .gd fun hc => .bind .ownL fun l hx => .bind ((S vars).ev k e) fun y h => .bind (mut_snd mm l y.2.1) fun l' g => .ret (s_mutE (and2 hc).1 (and2 hc).2 hx.1 hx.2 h g)
  | iff t b o p => exact .bind ((S _).tr k t) fun x h => .test (fun q => (evSs_snd B b _ _).mono fun r g => s_frz (s_if T0.ok h (by rw [if_pos q]; exact g))) fun q => (evSs_snd B o _ _).mono fun r g => s_frz (s_if T0.ok h (by rw [q]; exact g))
  | whl t b p => exact (evWhile_snd (fun vs k => (S vs).tr k t) (evSs_snd B b) 64 vars k).mono fun r h => s_while h
  | zip x px y py kk pt z pz a pa b pb pc bd p =>
    exact .gd fun hc => .bind ((S _).ev k _) fun u h1 => .bind ((S _).ev u.2.2 _) fun v h2 => .bind .asLst fun l e1 => .bind .asLst fun l' e2 => .ask fun _ => .ask fun _ => (evFor_snd (fun d vs => Yl.bindP) (evSs_snd B bd) _ _ _).mono fun r w => s_frz (by
      have hz := eq_of_beq (and3 hc).1
      subst hz
      exact s_zip T hi (and3 hc).2.1 h1 h2 e1 e2 w)
  | «for» t i bd p => exact .bind ((S vars).fsrc T k i) fun x h => .ask fun _ => (evFor_snd (fun d vs => Yl.bindT) (evSs_snd B bd) _ _ _).mono fun r w => s_forS T hi h w
  | pop y py x px mm pm e pc p =>
    exact .cond (fun hm => .gd fun hc => .bind .ownL fun l hx => .bind ((S vars).ev k e) fun i h => .bind .popD fun r ⟨j, hj, hr, hl⟩ => .bind .bindV fun v hv => .ret (by
        have e1 : mm = ("pop" : Str) := (eq_of_beq hm).trans (by decide +kernel)
        rw [hv.2, hl, e1]
        exact s_pop hi (and2 hc).1 (and2 hc).2 hx.1 hx.2 h hj hr hv.1)) fun _ =>
      .bind (asg_snd (n := 39) T H hi _) fun x h => .bind .bindV fun v hv => .ret (by rw [hv.2]; exact s_asg h hv.1)
  | asg y py e p => exact .bind (asg_snd (n := 39) T H hi e) fun x h => .bind .bindV fun v hv => .ret (by rw [hv.2]; exact s_asg h hv.1)
  | sto x px i ps e p => exact .gd fun hl => .bind ((S vars).ev k e) fun v h1 => .bind ((S vars).ev v.2.2 i) fun j h2 => .test (fun hf => .ret (s_fd hl h1 h2 hf)) fun _ => .bind (sto_snd x j.2.1 v.2.1) fun v' h3 => .ret (s_sto hl h1 h2 h3)
  | tupS x px sk u pq ps y py kk pt e p => exact .gd fun hc => .bind ((S vars).ev k e) fun v h => .bind .asTup fun l e1 => .bind pair_of fun q e2 => .bind (sto_snd x (.str sk) q.1) fun v₁ h3 => .bind .bindV fun v₂ hv => .ret (by rw [hv.2]; exact s_tupS hi (and2 hc).2 (and2 hc).1 hv.1 h e1 e2 h3)
  | tup2 ts kk pt es k2 p2 p => exact .bind (.lift fun xs h => h) fun xs hx => .gd fun hc => .bind ((S vars).r es k) fun y h => .bind (bindAll_snd xs y.1 vars) fun v b => .ret (s_tup2 hi (.of hx) (dec (and3 hc).1) (dec (and3 hc).2.1) ((Bool.not_eq_true' _).mp (and3 hc).2.2) h b)
  | unp ts kk pt e p => exact .gd fun hne => .bind (.lift fun xs h => h) fun xs hx => .bind ((S vars).ev k e) fun x h => .bind .asL fun l e1 => .bind (bindAll_snd xs _ vars) fun v b => .ret (s_unp hi hne (.of hx) h e1 b)
  | bad st => exact .fail
theorem evS_snd (T : TbOk c) (H : GoodCl c κ cl) (hi : CInj PE) : ∀ n, SndS T0 c κ PE cl (evS c.tb PE.scope.names n)
  | 0, st, vars, k => .fail
  | n + 1, st, vars, k => evSV_snd T H hi (evS_snd T H hi n) (view st)
end
end Mine

-- G19
namespace Mine
structure FnK (c : Cx) (f : Addr) (ps : List Str) (body : List Stmt) (scope : Scope) : Prop where
  ob : ∃ oc od osl fd, c.K.lookup f = some ⟨oc, od, .func fd, osl⟩ ∧ codeIn c.K fd.code fd.qualname = true ∧ fd.body = .stmts body ∧ fd.closure = [] ∧ fd.scope = scope ∧ fd.globals = mainGlobals ∧ fd.builtins = builtinsNs ∧
    (∀ vs, vs.length = ps.length → bindArgs fd ⟨vs, []⟩ = pure (ps.zip vs))
  nd : ps.Nodup
  loc : ∀ x ∈ ps, isLoc scope.names x = true
  co : scope.isCoroutine = false
  gen : scope.isGenerator = false
  kind : scope.kind = .function


theorem cellsFrom_acc {x : Str} (names : Kinds) : ∀ (n : Nat) (acc : List (Str × Addr)), (acc.lookup x).isSome = true → ((cellsFrom n names acc).lookup x).isSome = true := by
  induction names with
  | nil => exact fun _ _ h => h
  | cons p r ih =>
    intro n acc h
    unfold cellsFrom
    cases p.2 == NameKind.cell
    · exact ih _ _ h
    · refine ih _ _ ?_
      rw [List.lookup_cons]
      cases x == p.1
      · exact h
      · rfl
theorem cellsFrom_has {x : Str} (names : Kinds) : ∀ (n : Nat) (acc : List (Str × Addr)), (x, NameKind.cell) ∈ names → ((cellsFrom n names acc).lookup x).isSome = true := by
  induction names with
  | nil => exact fun _ _ h => nomatch h
  | cons p r ih =>
    intro n acc h
    unfold cellsFrom
    rcases List.mem_cons.mp h with e | h
    · subst e
      refine cellsFrom_acc r _ _ ?_
      rw [List.lookup_cons, beq_self_eq_true]
      rfl
    · cases p.2 == NameKind.cell
      · exact ih _ _ h
      · exact ih _ _ h
theorem bindL_out {kindOf : Str → Option NameKind} {x : Str} (b : List (Str × Value)) : ∀ (m : Str → Option Value), (∀ p ∈ b, p.1 ≠ x) → bindL kindOf b m x = m x := by
  induction b with
  | nil => exact fun _ _ => rfl
  | cons p r ih =>
    intro m h
    unfold bindL
    rw [ih _ fun q hq => h q (List.mem_cons_of_mem _ hq)]
    split
    · exact if_neg (Ne.symm (h _ List.mem_cons_self))
    · rfl
theorem bindC_out {kindOf : Str → Option NameKind} {x : Str} (b : List (Str × Value)) : ∀ (m : Str → Option Value), (∀ p ∈ b, p.1 ≠ x) → bindC kindOf b m x = m x := by
  induction b with
  | nil => exact fun _ _ => rfl
  | cons p r ih =>
    intro m h
    unfold bindC
    rw [ih _ fun q hq => h q (List.mem_cons_of_mem _ hq)]
    split
    · rfl
    · exact if_neg (Ne.symm (h _ List.mem_cons_self))
theorem notin_of {x : Str} {v : Value} {r : List (Str × Value)} (hn : (((x, v) :: r).map (·.1)).Nodup) : ∀ p ∈ r, p.1 ≠ x := fun p hp e => (List.nodup_cons.mp hn).1 (e ▸ List.mem_map_of_mem (f := (·.1)) hp)
theorem bindL_in {kindOf : Str → Option NameKind} {x : Str} {v : Value} (hk : kindOf x = some .local) (b : List (Str × Value)) : ∀ (m : Str → Option Value), (b.map (·.1)).Nodup → (x, v) ∈ b → bindL kindOf b m x = some v := by
  induction b with
  | nil => exact fun _ _ h => nomatch h
  | cons p r ih =>
    intro m hn hm
    unfold bindL
    rcases List.mem_cons.mp hm with e | hm
    · subst e
      rw [bindL_out r _ (notin_of hn), if_pos hk]
      exact if_pos rfl
    · exact ih _ (List.nodup_cons.mp hn).2 hm
theorem bindC_in {kindOf : Str → Option NameKind} {x : Str} {v : Value} (hk : kindOf x ≠ some .local) (b : List (Str × Value)) : ∀ (m : Str → Option Value), (b.map (·.1)).Nodup → (x, v) ∈ b → bindC kindOf b m x = some v := by
  induction b with
  | nil => exact fun _ _ h => nomatch h
  | cons p r ih =>
    intro m hn hm
    unfold bindC
    rcases List.mem_cons.mp hm with e | hm
    · subst e
      rw [bindC_out r _ (notin_of hn), if_neg hk]
      exact if_pos rfl
    · exact ih _ (List.nodup_cons.mp hn).2 hm
theorem AOk.deeper {κ : Nat} {A : Around} {PE : Env} (h : AOk (κ + 1) A) : AOk κ (A.deeper PE) :=
  ⟨h.handled, by have := h.depth; show A.depth + 1 + κ < _; omega, by have := h.units; show A.units + 3 + 8 * κ + 100 < _; omega⟩


section
variable {c : Cx} {PE PE' : Env} {G G' : Heap} {s s' s₁ : Shared} {k k' : Nat} {m m₁ m₂ : Str → Option Value} {vars vars' vars₁ vars₂ : Vars} {κ : Nat} {A : Around} {cl : Cl}
/-- the fields of one's own self -/
theorem zip_at {ps : List Str} : ∀ {vs : List Value} {ds : List D} {x : Str} {d : D}, IsL c G vs ds → (ps.zip ds).lookup x = some d → ∃ v, (x, v) ∈ ps.zip vs ∧ Is c G v d := by
  induction ps with
  | nil => exact fun _ h => nopO <| h
  | cons p ps ih =>
    intro vs ds x d hI h
    cases ds with
    | nil => exact nopO <| h
    | cons e ds =>
      obtain ⟨v, r, rfl, h1, h2⟩ := hI.cons_inv
      rw [List.zip_cons_cons, List.lookup_cons] at h
      by_cases q : x = p
      · subst q
        rw [beq_self_eq_true] at h
        cases h
        exact ⟨v, List.mem_cons_self, h1⟩
      · rw [beq_false_of_ne q] at h
        obtain ⟨v', g1, g2⟩ := ih h2 h
        exact ⟨v', List.mem_cons_of_mem _ g1, g2⟩
/-- own values handed to a callee, by names that stand in no scope -/
structure Lend (c : Cx) (G : Heap) (s : Shared) (scope : Scope) (mo : Str → Option Value) (ow : Vars) : Prop where
  val : ∀ x oo d, ow.lookup x = some (oo, d) → oo = true ∧ scope.names.lookup x = Option.none ∧ ∃ a, mo x = some (.ref a) ∧ Own c G s.heap (.ref a) d
  sep : ∀ x y d d' a, ow.lookup x = some (true, d) → ow.lookup y = some (true, d') → mo x = some (.ref a) → mo y = some (.ref a) → x = y


theorem lookApp {α : Type} (r : List (Str × α)) (x : Str) (l : List (Str × α)) : (l ++ r).lookup x = (l.lookup x).or (r.lookup x) := by
  induction l with
  | nil => rfl
  | cons p l ih =>
    rw [List.cons_append, List.lookup_cons, List.lookup_cons]
    cases x == p.1
    · exact ih
    · rfl
noncomputable def fzV (fz : List (Str × D)) : Vars := fz.map fun p => (p.1, false, p.2)
theorem lookFz (x : Str) (fz : List (Str × D)) : (fzV fz).lookup x = (fz.lookup x).map fun d => (false, d) := by
  induction fz with
  | nil => rfl
  | cons p r ih =>
    show List.lookup x ((p.1, false, p.2) :: fzV r) = _
    rw [List.lookup_cons, List.lookup_cons]
    cases x == p.1
    · exact ih
    · rfl
theorem Lend.look {scope : Scope} {fz : List (Str × D)} {ow : Vars} {mo : Str → Option Value} (L : Lend c G s scope mo ow) {x : Str} {o : Bool} {d : D} (h : (fzV fz ++ ow).lookup x = some (o, d)) : (o = false ∧ fz.lookup x = some d) ∨ (o = true ∧ ow.lookup x = some (true, d)) := by
  rw [lookApp, lookFz] at h
  cases q : fz.lookup x with
  | some d' => rw [q] at h; cases h; exact .inl ⟨rfl, rfl⟩
  | none =>
    rw [q] at h
    have h : ow.lookup x = some (o, d) := h
    have := (L.val x o d h).1
    subst this
    exact .inr ⟨rfl, h⟩
theorem fresh_ge {h : Heap} {b : Addr} (hb : h.objs.size ≤ b) : h.get? b = none := by
  cases q : h.get? b with
  | none => rfl
  | some ob => exact absurd (Heap.lt_size q) (Nat.not_lt.mpr hb)
theorem isLoc_or {sc : Kinds} {x : Str} (h : isLoc sc x = true) : sc.lookup x = some .local ∨ sc.lookup x = some .cell := by
  have h := (and3 h).1
  rw [Bool.or_eq_true] at h
  exact h.imp eq_of_beq eq_of_beq
/-- back in the caller's frame, where all that is the caller's own was lent -/
theorem St.back (st : St c PE G s k m vars) (hk : ∀ b ob, s.heap.get? b = some ob → s₁.heap.get? b = some ob) (hot : ∀ b, FHot PE' b → s.heap.get? b = Option.none) (x₂ : St c PE' G' s' k' m₂ vars₂) (t : Go c PE' G G' s₁ s' m₁ m₂ vars₁ vars₂) (hg : s₁.gens = s.gens ∧ s₁.drawn = s.drawn ∧ s₁.os = s.os)
    (hown : ∀ a, OwnA m₁ vars₁ a → OwnA m vars a)
    (hv : ∀ z oo d, vars'.lookup z = some (oo, d) → (oo = false ∧ vars.lookup z = some (false, d)) ∨ (oo = true ∧ (∃ d₀, vars.lookup z = some (true, d₀)) ∧ vars₂.lookup z = some (true, d) ∧ m₂ z = m z)) :
    St c PE G' s' k' m vars' ∧ Go c PE G G' s s' m m vars vars' := by
  have hs : ∀ a, s.heap.get? a ≠ none → HotS PE' m₁ vars₁ a → OwnA m vars a := fun a ha q => q.elim (fun q => absurd (hot a q) ha) (hown a)
  have keep : ∀ a ob, a ≠ c.fa → ¬ OwnA m vars a → s.heap.get? a = some ob → s'.heap.get? a = some ob := fun a ob h1 h2 e =>
    t.step.keep a ob h1 (fun q => h2 (hs a (by rw [e]; simp) q)) (hk a ob e)
  have fhO : ∀ a, FHot PE a → ¬ OwnA m vars a := fun a hf ⟨z, d, e1, e2⟩ => st.hot z d a e1 e2 hf
  have gnew : ∀ a, s.heap.get? a ≠ none → ¬ OwnA m vars a → G.get? a = none → G'.get? a = none := fun a ha hn hG => by
    cases q : G'.get? a with
    | none => rfl
    | some ob =>
      rcases t.step.new a ob q with e | e | e
      · rw [hG] at e; cases e
      · obtain ⟨o', ho⟩ := Option.ne_none_iff_exists'.mp ha
        rw [hk a o' ho] at e; cases e
      · exact absurd (hs a ha e) hn
  refine ⟨⟨x₂.ok, st.fr.keep fun a ob hf e => keep a ob (st.hotG a hf).2 (fhO a hf) e, fun a hf => ⟨gnew a (st.fr.live hf) (fhO a hf) (st.hotG a hf).1, (st.hotG a hf).2⟩, fun z oo d e => ?_, fun z z' d d' a e1 e2 g1 g2 => ?_, fun z d a e1 e2 => ?_⟩,
    ⟨⟨t.step.le, fun a ob e => ?_, fun a ob h1 h2 e => keep a ob h1 (fun q => h2 (.inr q)) e, fun a e => ?_, t.step.gens.trans hg.1, t.step.drawn.trans hg.2.1, t.step.os.trans hg.2.2⟩, fun a h => ?_⟩⟩
  · rcases hv z oo d e with ⟨rfl, h⟩ | ⟨rfl, ⟨d₀, h⟩, h2, h3⟩
    · obtain ⟨v, h1, h2⟩ := st.val z false d h
      exact ⟨v, h1, Is.mono h2 t.step.le⟩
    · obtain ⟨v, h1, h4⟩ := x₂.val z true d h2
      exact ⟨v, h3 ▸ h1, h4⟩
  · rcases hv z _ d e1 with ⟨h, _⟩ | ⟨_, ⟨d₁, h1⟩, _⟩
    · cases h
    · rcases hv z' _ d' e2 with ⟨h, _⟩ | ⟨_, ⟨d₂, h2⟩, _⟩
      · cases h
      · exact st.sep z z' _ _ a h1 h2 g1 g2
  · rcases hv z _ d e1 with ⟨h, _⟩ | ⟨_, ⟨d₁, h1⟩, _⟩
    · cases h
    · exact st.hot z _ a h1 e2
  · rcases t.step.new a ob e with q | q | q
    · exact .inl q
    · right; left
      cases z : s.heap.get? a with
      | none => rfl
      | some o' => rw [hk a o' z] at q; cases q
    · by_cases ha : s.heap.get? a = none
      · exact .inr (.inl ha)
      · exact .inr (.inr (.inr (hs a ha q)))
  · obtain ⟨o', ho⟩ := Option.ne_none_iff_exists'.mp e
    exact t.step.live a (by rw [hk a o' ho]; simp)
  · obtain ⟨z, d, e1, e2⟩ := h
    rcases hv z _ d e1 with ⟨h, _⟩ | ⟨_, ⟨d₁, h1⟩, _⟩
    · cases h
    · exact .inl ⟨z, d₁, h1, e2⟩

end
end Mine

-- G19s
namespace Mine

theorem DictOf_putName {prog : Program} {w : World} {h : Heap} {a : Addr} {kvs : List (Str × Value)} (hm : h.DictOf (PySem.strKind prog w) a kvs) (n : Str) (tk : Tok) (v : Value) :
    (h.update a (Obj.putName n (PyData.keyHash w.params n) (.str n tk) v)).DictOf (PySem.strKind prog w) a (stored kvs n v) := by
  obtain ⟨o, es, ep, ho, hc, hd, hk, hp, hn⟩ := hm
  have hkey := strKind_is prog w n tk
  have eIs : ∀ u : Value, (PySem.strKind prog w).is n u = u.isStr n := fun u => (PySem.strKind prog w).strs n n tk u hkey
  have hidx : (es.findIdx? fun e => e.key.isStr n) = kvs.findIdx? fun kv => decide (kv.1 = n) := by
    rw [← hp.findIdx n]
    obtain ⟨l⟩ := es
    simp only [List.findIdx?_toArray, eIs]
  have ho' : o = ⟨.type "dict", none, .dict es ep, #[]⟩ := by
    obtain ⟨c, d, dt, sl⟩ := o
    obtain ⟨h1, h2, h3⟩ := hc
    dsimp only at h1 h2 h3 hd
    rw [h1, h2, h3, hd]
  have upd : ∀ es' ep', Obj.putName n (PyData.keyHash w.params n) (.str n tk) v o = ⟨.type "dict", none, .dict es' ep', #[]⟩ → KeysOf (PySem.strKind prog w) es' → Pairs (PySem.strKind prog w) es'.toList (stored kvs n v) → ((stored kvs n v).map (·.1)).Nodup →
      (h.update a (Obj.putName n (PyData.keyHash w.params n) (.str n tk) v)).DictOf (PySem.strKind prog w) a (stored kvs n v) := fun es' ep' e k1 k2 k3 =>
    ⟨_, es', ep', Heap.get?_update_self _ ho (by rw [e]; rfl), by rw [e]; exact ⟨rfl, rfl, rfl⟩, by rw [e], k1, k2, k3⟩
  cases hi : es.findIdx? fun e => e.key.isStr n with
  | some i =>
    refine upd (es.modify i fun e => { e with val := v }) ep ?_ (hk.modify _ _) ?_ ?_
    · rw [ho', Obj.putName_eq]; unfold Obj.putNameByArray; simp only [hi]
    · rw [stored, if_pos (any_of_findIdx_some (hidx ▸ hi))]
      have hl : (es.toList.findIdx? fun e => (PySem.strKind prog w).is n e.key) = some i := by rw [← hi]; obtain ⟨l⟩ := es; simp [eIs]
      have := hp.modify hn hl v
      obtain ⟨l⟩ := es
      simpa using this
    · rw [stored, if_pos (any_of_findIdx_some (hidx ▸ hi)), keys_map_store]; exact hn
  | none =>
    have hnot : n ∉ kvs.map (·.1) := not_mem_of_findIdx_none (hidx ▸ hi)
    have hany : ¬ (kvs.any fun kv => decide (kv.1 = n)) = true := by
      rw [List.any_eq_true]; rintro ⟨kv, hkv, he⟩
      exact hnot (List.mem_map.mpr ⟨kv, hkv, of_decide_eq_true he⟩)
    refine upd (es.push ⟨PyData.keyHash w.params n, .str n tk, v⟩) (ep + 1) ?_ (hk.push hkey _) ?_ ?_
    · rw [ho', Obj.putName_eq]; unfold Obj.putNameByArray; simp only [hi]
    · rw [stored, if_neg hany]
      have := hp.append hkey (PyData.keyHash w.params n) v
      obtain ⟨l⟩ := es
      simpa using this
    · rw [stored, if_neg hany, List.map_append, List.nodup_append]
      refine ⟨hn, by simp, ?_⟩
      intro a ha b hb
      simp only [List.map_cons, List.map_nil, List.mem_singleton] at hb
      subst hb
      exact fun e => hnot (e ▸ ha)

section
variable {c : Cx} {PE : Env} {G G' : Heap} {s s' : Shared} {k k' : Nat} {m : Str → Option Value} {vars vars' : Vars} {f : EvF} {κ : Nat} {A : Around}

/-- a class whose objects are plain: what a name in their own dict is -/
structure SetOk (K : Frag) (C : Addr) (n : Str) : Prop where
  set : findIn K (.ref C) "__setattr__" = some (some (.builtin "object.__setattr__"))
  over : plainOver K C = true
  take : takerIn K C n = some none
  dict : hasDictIn K C = true

theorem osa_own {R : Result → Shared → Prop} {x dx C : Addr} {n : Str} {tk : Tok} {v : Value} {kvs : List (Str × Value)} (X : c.K.In s.heap) (hx : s.heap.get? x = some (instObj C dx)) (hd : s.heap.DictOf (PySem.strKind c.prog c.w) dx kvs) (S : SetOk c.K C n) (hz : kvs.length ≤ 900)
    (hQ : ∀ h', h'.DictOf (PySem.strKind c.prog c.w) dx (stored kvs n v) → (∀ b o, b ≠ dx → s.heap.get? b = some o → h'.get? b = some o) → R (.ok (.ret .none)) { s with heap := h', toks := s.toks + 1 }) :
    codeAny (Mo c) A (.call (.builtin "object.__setattr__") ⟨[.ref x, .str n tk, v], []⟩) R s := by
  obtain ⟨o, es, ep, ho, hc, hdd, hk, hp, hnd⟩ := id hd
  have ho' : o = ⟨.type "dict", none, .dict es ep, #[]⟩ := by
    obtain ⟨c, d, dt, sl⟩ := o
    obtain ⟨h1, h2, h3⟩ := hc
    dsimp only at h1 h2 h3 hdd
    rw [h1, h2, h3, hdd]
  subst ho'
  have I : W.InstAt s.heap x (instObj C dx) C (some ⟨.type "dict", none, .dict es ep, #[]⟩) := ⟨hx, rfl, rfl, ho⟩
  refine osa_open X I S.over S.take fun b => ?_
  obtain ⟨cd, hcl, hd'⟩ := any_some S.dict
  refine wpAny_bind (wpAny_pure (wpAny_bind (wpAny_bind (wpAny_loadPart hx (wpAny_bind ((looks_clsIn X hcl).here ?_))))))
  rw [hd']
  refine wpAny_pure (a := some dx) (wpAny_bind (wpAny_pure (wpAny_bind ?_)))
  unfold nsSet
  refine wpAny_bind (wpAny_bind (wpAny_askSetting (wpAny_pure (wpAny_bind (wpAny_mkText (wpAny_bind (wpAny_loadPart ho ?_)))))))
  dsimp only
  have nr : es.any (fun e => e.refKey) = false := by
    rw [Array.any_eq_false]
    intro i hi
    obtain ⟨k, hk1, _⟩ := hk es[i] (Array.getElem_mem hi)
    obtain ⟨t, e⟩ := Value.isStrOf_shape hk1
    unfold DictEntry.refKey
    rw [e]; simp
  have cnd : (!es.any (fun e => e.key.isStr n) && es.any (fun e => e.refKey)) = false := by rw [nr, Bool.and_false]
  rw [aRefKeyMayBeTheName_at, cnd]
  refine wpAny_updatePart ho ?_
  have D' := DictOf_putName hd n s.toks v
  obtain ⟨o₂, es₂, ep₂, ho₂, hc₂, hdd₂, hk₂, hp₂, hnd₂⟩ := id D'
  refine wpAny_bind (wpAny_lookBehind ho₂ (by
    rw [hdd₂]
    refine pastItsLine_dict ?_
    have := hp₂.length
    have h1 := stored_length_le kvs n v
    have h2 : es₂.size = es₂.toList.length := by simp
    rw [h2, this, sizeLine_eq]; omega) ?_)
  exact wpAny_pure (hQ _ D' (upd_other _))
theorem setAttr_own {E : Value → Shared → Prop} {x dx C : Addr} {n : Str} {v : Value} {kvs : List (Str × Value)} {Q : Unit → Shared → Prop} (X : c.K.In s.heap) (hx : s.heap.get? x = some (instObj C dx)) (hd : s.heap.DictOf (PySem.strKind c.prog c.w) dx kvs) (S : SetOk c.K C n) (hz : kvs.length ≤ 900)
    (hQ : ∀ h' tk, h'.DictOf (PySem.strKind c.prog c.w) dx (stored kvs n v) → (∀ b o, b ≠ dx → s.heap.get? b = some o → h'.get? b = some o) → Q () { s with heap := h', toks := tk }) :
    wpAny (Mo c) A (setAttr (.ref x) n v) Q E s := by
  obtain ⟨o, es, ep, ho, _⟩ := id hd
  have I : W.InstAt s.heap x (instObj C dx) C (some o) := ⟨hx, rfl, rfl, ho⟩
  exact set_plain X I S.set (osa_own (s := { s with toks := s.toks + 1 }) X hx hd S hz fun h' a b => hQ h' _ a b)
end
end Mine

-- G20
namespace Mine

section
variable {c : Cx} {PE PE' : Env} {G G' : Heap} {s s' s₁ : Shared} {k k' : Nat} {m m₁ m₂ : Str → Option Value} {vars vars' vars₁ vars₂ : Vars} {κ : Nat} {A : Around} {cl : Cl}
theorem St.setSelf {E : Value → Shared → Prop} {x dx C : Addr} {n dn : Str} {v : Value} {d : D} {l : List (Str × D)} {Q : Unit → Shared → Prop} (st : St c PE G s k m vars) (hd : vars.lookup dn = some (true, .dct l)) (hm : m dn = some (.ref dx)) (hx : s.heap.get? x = some (instObj C dx)) (S : SetOk c.K C n) (hl : l.length ≤ 900) (hv : Is c G v d)
    (hQ : ∀ h' tk, St c PE G { s with heap := h', toks := tk } k m (vset dn true (.dct (dset n d l)) vars) → Go c PE G G s { s with heap := h', toks := tk } m m vars (vset dn true (.dct (dset n d l)) vars) → (∀ b o, b ≠ dx → s.heap.get? b = some o → h'.get? b = some o) → Q () { s with heap := h', toks := tk }) :
    wpAny (Mo c) A (setAttr (.ref x) n v) Q E s := by
  cases st.ownAt hd hm with
  | @dct _ kvs _ g1 g2 g0 g3 g4 => exact setAttr_own st.ok.K hx g3 S (by rw [g4.length]; exact hl) fun h' tk hd' hs => (st.turn tk hd hm hs (.dct g1 g2 g0 hd' (g4.put hv n (dct_nodup g3)))).elim fun x' t' => hQ h' tk x' t' hs

/-- a def's block, just entered -/
structure Entr (c : Cx) (G : Heap) (s s₁ : Shared) (k : Nat) (PE : Env) (ps : List Str) (vs : List Value) (fz : List (Str × D)) (ow : Vars) (mo m₁ : Str → Option Value) : Prop where
  st : St c PE G s₁ k m₁ (fzV fz ++ ow)
  ci : CInj PE
  hot : ∀ b, FHot PE b → s.heap.get? b = none
  keep : ∀ b ob, s.heap.get? b = some ob → s₁.heap.get? b = some ob
  same : ∃ h tk, s₁ = { s with heap := h, toks := tk }
  mp : ∀ x v, (x, v) ∈ ps.zip vs → m₁ x = some v
  mo : ∀ x oo d, ow.lookup x = some (oo, d) → m₁ x = mo x
/-- what the block's names hold, at first -/
noncomputable def m0 (PE : Env) (b : List (Str × Value)) : Str → Option Value := fun x => if PE.kindOf x = some .cell then bindC PE.kindOf b (fun _ => none) x else bindL PE.kindOf b (fun _ => none) x
noncomputable def m1 (PE : Env) (b : List (Str × Value)) (ow : Vars) (mo : Str → Option Value) : Str → Option Value := fun x => if (ow.lookup x).isSome then mo x else m0 PE b x
theorem m1_k {scope : Scope} {ow : Vars} {mo : Str → Option Value} (L : Lend c G s scope mo ow) (hPE : PE.scope = scope) {b : List (Str × Value)} {x : Str} {kd : NameKind} (h : PE.kindOf x = some kd) : m1 PE b ow mo x = m0 PE b x := by
  refine if_neg fun q => ?_
  obtain ⟨⟨oo, d⟩, e⟩ := Option.isSome_iff_exists.mp q
  subst hPE
  exact nopO <| h.symm.trans (L.val x oo d e).2.1
theorem m1_o {ow : Vars} {mo : Str → Option Value} {b : List (Str × Value)} {x : Str} {oo : Bool} {d : D} (h : ow.lookup x = some (oo, d)) : m1 PE b ow mo x = mo x := if_pos (by rw [h]; rfl)
theorem m1_p {scope : Scope} {ow : Vars} {mo : Str → Option Value} (L : Lend c G s scope mo ow) (hPE : PE.scope = scope) {b : List (Str × Value)} {x : Str} {v : Value} (hn : (b.map (·.1)).Nodup) (hl : isLoc scope.names x = true) (h : (x, v) ∈ b) : m1 PE b ow mo x = some v := by
  have hl := isLoc_or hl
  have hk : PE.kindOf x = some .local ∨ PE.kindOf x = some .cell := by subst hPE; exact hl
  rcases hk with q | q
  · rw [m1_k L hPE q]
    exact (if_neg (by rw [q]; exact nofun)).trans (bindL_in q b _ hn h)
  · rw [m1_k L hPE q]
    exact (if_pos q).trans (bindC_in (by rw [q]; exact nofun) b _ hn h)
theorem frame_st {ps : List Str} {scope : Scope} (hnd : ps.Nodup) (hloc : ∀ x ∈ ps, isLoc scope.names x = true) (hkind : scope.kind = .function) (o : Ok c G s k) {vs : List Value} (hvl : vs.length = ps.length)
    {fz : List (Str × D)} (hfz : ∀ x d, fz.lookup x = some d → ∃ v, (x, v) ∈ ps.zip vs ∧ Is c G v d) {ow : Vars} {mo : Str → Option Value} (L : Lend c G s scope mo ow)
    (hPE : PE.scope = scope) (hglob : PE.globals = mainGlobals) (hbl : PE.builtins = builtinsNs) (hloc' : PE.locals = s.heap.objs.size) (X : InCallC s PE.locals (bindL PE.kindOf (ps.zip vs) fun _ => Option.none) PE.cells (bindC PE.kindOf (ps.zip vs) fun _ => Option.none) s₁)
    (hcells : ∀ x, PE.kindOf x = some .cell → (PE.cells.lookup x).isSome = true) : Entr c G s s₁ k PE ps vs fz ow mo (m1 PE (ps.zip vs) ow mo) := by
  obtain ⟨hs, tks, rfl⟩ := X.toInCall.same
  have hkeep : ∀ b ob, s.heap.get? b = some ob → hs.get? b = some ob := X.toInCall.keep
  have hot : ∀ b, FHot PE b → s.heap.get? b = none := fun b hb => by
    rcases hb with rfl | ⟨x, _, h2⟩
    · exact fresh_ge (Nat.le_of_eq hloc'.symm)
    · exact fresh_ge (Nat.le_of_lt (hloc' ▸ X.above x b (mem_of_lookup h2)))
  have hF : Fram PE hs (m1 PE (ps.zip vs) ow mo) := by
    refine ⟨by rw [hPE]; exact hkind, hglob, hbl, ⟨_, X.toInCall.ns, fun x h0 hx => ?_⟩, fun x hx => ?_⟩
    · rw [m1_k L hPE hx]
      exact (if_neg (by rw [hx]; exact nofun)).symm
    · obtain ⟨a, ha⟩ := Option.isSome_iff_exists.mp (hcells x hx)
      refine ⟨a, ha, ?_⟩
      rw [m1_k L hPE hx, m0, if_pos hx]
      exact X.cell x a ha
  have hzn : ((ps.zip vs).map (·.1)).Nodup := by rw [zip_keys hvl.symm]; exact hnd
  have mp : ∀ x v, (x, v) ∈ ps.zip vs → m1 PE (ps.zip vs) ow mo x = some v := fun x v h => m1_p L hPE hzn (hloc x (by rw [← zip_keys (xs := ps) (vs := vs) hvl.symm]; exact List.mem_map_of_mem (f := (·.1)) h)) h
  have gn : ∀ b, s.heap.get? b = none → G.get? b = none := fun b e => by
    cases q : G.get? b with
    | none => rfl
    | some ob => exact nopO <| (o.sub _ _ q).symm.trans e
  refine ⟨⟨o.keep hkeep, hF, fun b hb => ⟨gn b (hot b hb), fun e => o.falive (e ▸ hot b hb)⟩, fun x oo d e => ?_, fun x y d d' a e1 e2 => ?_, fun x d a e1 e2 hb => ?_⟩, fun x y a _ _ h1 h2 => name_of_addr X.apart (mem_of_lookup h1) (mem_of_lookup h2), hot, hkeep, ⟨hs, tks, rfl⟩, mp, fun x oo d h => m1_o h⟩
  · rcases L.look e with ⟨rfl, h⟩ | ⟨rfl, h⟩
    · obtain ⟨v, h1, h2⟩ := hfz x d h
      exact ⟨v, mp x v h1, h2⟩
    · obtain ⟨_, _, a, h1, h2⟩ := L.val x _ d h
      exact ⟨_, (m1_o h).trans h1, h2.mono Sub.rfl' (fun _ _ e => e) fun b ob _ _ e => hkeep b ob e⟩
  · rcases L.look e1 with ⟨h, _⟩ | ⟨_, h1⟩
    · cases h
    · rcases L.look e2 with ⟨h, _⟩ | ⟨_, h2⟩
      · cases h
      · rw [m1_o h1, m1_o h2]
        exact L.sep x y d d' a h1 h2
  · rcases L.look e1 with ⟨h, _⟩ | ⟨_, h1⟩
    · cases h
    · obtain ⟨_, _, a', g1, g2⟩ := L.val x _ d h1
      rw [m1_o h1, g1] at e2
      cases e2
      obtain ⟨a'', q1, q2, _⟩ := g2.live
      cases q1
      exact q2 (hot a hb)
/-- what a call hands back -/
noncomputable def rv : Flow → Value
  | .ret v => v
  | _ => .none
theorem enterC {ps : List Str} {body : List Stmt} {scope : Scope} {fa : Addr} (F : FnK c fa ps body scope) (hA : AOk (κ + 1) A) (o : Ok c G s k) {vs : List Value} (hvl : vs.length = ps.length) {fz : List (Str × D)} (hfz : ∀ x d, fz.lookup x = some d → ∃ v, (x, v) ∈ ps.zip vs ∧ Is c G v d) {ow : Vars} {mo : Str → Option Value} (L : Lend c G s scope mo ow)
    {R : Value → Shared → Prop} (hbody : ∀ PE s₁ m₁, PE.scope = scope → Entr c G s s₁ k PE ps vs fz ow mo m₁ → AOk κ (A.deeper PE) → wpAny (Mo c) (A.deeper PE) (execs body PE) (fun fl s' => R (rv fl) s') NoE s₁) :
    codeAny (Mo c) A (.call (.ref fa) ⟨vs, []⟩) (fun r s' => match r with | .ok (.ret v) => R v s' | _ => False) s := by
  obtain ⟨oc, od, osl, fd, e1, e2, e3, e4, e5, e6, e7, e8⟩ := F.ob
  refine (codeAny_call_cells (fd := fd) (body := body) (binds := ps.zip vs) (by have := hA.depth; omega) (o.K _ _ e1) rfl (o.base.nolim.keeps o.sub) (codeRec_of o.K e2) e3 (e8 vs hvl) e4 (fun x hx => ?_) (fun s₁ X => ?_) (e5 ▸ F.co) (e5 ▸ F.gen) (e5 ▸ F.kind))
  · rw [e5]
    have hxp : x.1 ∈ ps := by rw [← zip_keys (xs := ps) (vs := vs) hvl.symm]; exact List.mem_map_of_mem (f := (·.1)) hx
    exact (isLoc_or (F.loc _ hxp)).imp id fun q => ⟨q, cellsFrom_has _ _ _ (mem_of_lookup q)⟩
  · generalize hPE : callEnvC fd s.heap.objs.size fa = PE at X ⊢
    have hsc : PE.scope = scope := by rw [← hPE, ← e5]; rfl
    have E := frame_st F.nd F.loc F.kind o hvl hfz L hsc (by rw [← hPE]; exact e6) (by rw [← hPE]; exact e7) (by rw [← hPE]; rfl) X (fun x hx => by
      have : PE.cells = cellsFrom (s.heap.objs.size + 1) fd.scope.names [] := by rw [← hPE]; rfl
      rw [this]
      refine cellsFrom_has _ _ _ (mem_of_lookup (α := NameKind) ?_)
      unfold Env.kindOf at hx
      rw [hsc, ← e5] at hx
      exact hx)
    exact wpAny_mono (hbody PE s₁ _ hsc E hA.deeper) (fun fl s' h => by cases fl <;> exact h) fun _ _ e => e.elim
theorem enter {ps : List Str} {body : List Stmt} {scope : Scope} {fa : Addr} (F : FnK c fa ps body scope) (hA : AOk (κ + 1) A) (o : Ok c G s k) {vs : List Value} (hvl : vs.length = ps.length) {fz : List (Str × D)} (hfz : ∀ x d, fz.lookup x = some d → ∃ v, (x, v) ∈ ps.zip vs ∧ Is c G v d) {ow : Vars} {mo : Str → Option Value} (L : Lend c G s scope mo ow)
    {R : Value → Shared → Prop} (hbody : ∀ PE s₁ m₁, PE.scope = scope → Entr c G s s₁ k PE ps vs fz ow mo m₁ → AOk κ (A.deeper PE) → wpAny (Mo c) (A.deeper PE) (execs body PE) (fun fl s' => R (rv fl) s') NoE s₁) :
    wpAny (Mo c) A (call (.ref fa) vs) R NoE s :=
  wpAny_call (codeAny_mono (enterC F hA o hvl hfz L hbody) fun r s' h => by
    rcases r with e | (v | _ | _ | _) <;> first | exact h | exact h.elim)
/-- behind a callee that was lent nothing -/
theorem Go.leave (t : Go c PE G G' s₁ s' m₁ m₂ vars₁ vars₂) (hk : ∀ b ob, s.heap.get? b = some ob → s₁.heap.get? b = some ob) (hh : ∀ b, HotS PE m₁ vars₁ b → s.heap.get? b = none) (hg : ∃ h tk, s₁ = { s with heap := h, toks := tk }) : StepE c G G' s s' := by
  have old : ∀ {a}, s₁.heap.get? a = none → s.heap.get? a = none := fun {a} e => by
    cases z : s.heap.get? a with
    | none => rfl
    | some ob => exact nopO <| (hk _ _ z).symm.trans e
  obtain ⟨h, tk, rfl⟩ := hg
  refine ⟨t.step.le, fun a ob e => ?_, fun a ob h1 h2 e => t.step.keep a ob h1 (fun q => nopO <| e.symm.trans (hh a q)) (hk a ob e), fun a e => ?_, t.step.gens, t.step.drawn, t.step.os⟩
  · rcases t.step.new a ob e with q | q | q
    · exact .inl q
    · exact .inr (.inl (old q))
    · exact .inr (.inl (hh a q))
  · exact t.step.live a fun q => e (old q)
theorem Lend.nil {scope : Scope} {mo : Str → Option Value} : Lend c G s scope mo [] := ⟨nofun, nofun⟩
theorem Entr.hotN {ps : List Str} {vs : List Value} {fz : List (Str × D)} {mo : Str → Option Value} (E : Entr c G s s₁ k PE ps vs fz [] mo m₁) : ∀ b, HotS PE m₁ (fzV fz ++ []) b → s.heap.get? b = none := fun b q => q.elim (E.hot b) fun ⟨x, d, e, _⟩ => by
  rw [List.append_nil, lookFz] at e
  obtain ⟨_, _, e⟩ := Option.map_eq_some_iff.mp e
  cases e
theorem Yl.out {x : Fl × Vars × Nat} {P : D × Nat → Prop} (h1 : ∀ d, x.1 = .ret d → P (d, x.2.2)) (h2 : x.1 = .nxt → P (.none, x.2.2)) : Yl cl (outM x) P := by
  obtain ⟨fl, v, k⟩ := x
  cases fl
  · exact .ret (h2 rfl)
  · exact .fail
  · exact .ret (h1 _ rfl)
theorem PostJ.call {x : Fl × Vars × Nat} {fl : Flow} {d : D} (p : PostJ T0 c PE G s₁ m₁ vars₁ x fl s') (hd : x.1 = .ret d ∨ (x.1 = .nxt ∧ d = .none)) (leave : ∀ G' m' vars', Go c PE G G' s₁ s' m₁ m' vars₁ vars' → StepE c G G' s s') : PostE c G s x.2.2 false d (rv fl) s' := by
  obtain ⟨G', m', x', t', i'⟩ := p
  have t := leave _ _ _ t'
  rcases hd with hd | ⟨hd, rfl⟩
  · rw [hd] at i'
    cases i' with
    | ret j => exact .mk' x'.st.ok t j
  · rw [hd] at i'
    cases i'
    exact .mk' x'.st.ok t .none
theorem fn_snd (T : TbOk c) (H : GoodCl c κ cl) {f : Addr} {ps : List Str} {body : List Stmt} {scope : Scope} (F : FnK c f ps body scope) (ds : List D) (k : Nat) : Yl cl (runFn c.tb scope.names ps body ds k) fun r => GoodCall c (κ + 1) f ds k r.1 r.2 := by
  have main : ∀ x : Fl × Vars × Nat, (∀ PE, PE.scope = scope → CInj PE → BkP T0 c κ PE body (frozenV ps ds) k x) → ps.length = ds.length → ∀ d, (x.1 = .ret d ∨ (x.1 = .nxt ∧ d = .none)) → GoodCall c (κ + 1) f ds k d x.2.2 := fun x B hl d hd A G s vs hA o hI =>
    enter F hA o (hI.1.trans hl.symm) (fz := ps.zip ds) (fun x d h => zip_at hI h) (ow := []) (mo := fun _ => none) .nil fun PE s₁ m₁ hs E hA' => wseq (B PE hs E.ci _ G s₁ m₁ hA' ⟨by have := E.st; rw [List.append_nil] at this; exact this, trivial⟩) fun fl s' p =>
      p.call hd fun G' m' vars' t => t.leave E.keep (by have := E.hotN; rw [List.append_nil] at this; exact this) E.same
  refine .gd fun hl => ?_
  intro r hr
  obtain ⟨x, hx, hr⟩ := run_bind_inv hr
  have B : ∀ PE, PE.scope = scope → CInj PE → BkP T0 c κ PE body (frozenV ps ds) k x := fun PE hs hi => by
    subst hs
    exact evSs_snd (evS_snd T H hi 20) body _ k x hx
  exact Yl.out (cl := cl) (x := x) (P := fun r => GoodCall c (κ + 1) f ds k r.1 r.2) (fun d h => main x B (dec hl) d (.inl h)) (fun h => main x B (dec hl) .none (.inr ⟨h, rfl⟩)) r hr
end
end Mine

-- G21
namespace Mine

section
variable {c : Cx} {PE PE' : Env} {G G' : Heap} {s s' s₁ : Shared} {k k' k₁ : Nat} {m m₁ m₂ : Str → Option Value} {vars vars' vars₁ vars₂ : Vars} {κ : Nat} {A : Around}
/-- what a class's making leaves behind -/
structure Made (c : Cx) (G : Heap) (s : Shared) (dx : Addr) (k' : Nat) (l : List (Str × D)) (v : Value) (s' : Shared) : Prop where
  none : v = .none
  done : ∃ G', Ok c G' s' k' ∧ Step c G G' s s' (fun a => a = dx) ∧ Own c G' s'.heap (.ref dx) (.dct l)

theorem pairs_align {prog : Program} {w : World} {G : Heap} {es : List DictEntry} {kvs : List (Str × Value)} {l : List (Str × D)} (hp : Pairs (PySem.strKind prog w) es kvs) (hk : IsKV c G kvs l) :
    es.length = l.length ∧ (∀ (i : Nat) e q, es[i]? = some e → l[i]? = some q → e.key.isStr q.1 = true) ∧ (∀ (i : Nat) v d, (es.map (·.val))[i]? = some v → (l.map (·.2))[i]? = some d → Is c G v d) := by
  induction hp generalizing l with
  | nil =>
    cases l with
    | nil => exact ⟨rfl, fun i e q h => by simp at h, fun i v d h => by simp at h⟩
    | cons q r => have := hk.length; simp at this
  | @cons e kv es kvs h1 h2 _ ih =>
    cases l with
    | nil => have := hk.length; simp at this
    | cons q r =>
      obtain ⟨qn, qd⟩ := q
      obtain ⟨v, r', e1, e2, e3⟩ := hk.cons_inv
      cases e1
      obtain ⟨a1, a2, a3⟩ := ih e3
      refine ⟨by simp [a1], fun i e' q' g1 g2 => ?_, fun i v' d' g1 g2 => ?_⟩
      · cases i with
        | zero =>
          simp at g1 g2
          subst g1 g2
          obtain ⟨t, et⟩ := Value.isStrOf_shape h1
          rw [et]
          simp [Value.isStr]
        | succ i => exact a2 i e' q' (by simpa using g1) (by simpa using g2)
      · cases i with
        | zero => simp at g1 g2; subst g1 g2; rw [h2]; exact e2
        | succ i => exact a3 i v' d' (by simpa using g1) (by simpa using g2)

theorem Is.ofDct {x dx C : Addr} {l : List (Str × D)} (hx : G.get? x = some (instObj C dx)) (hd : Is c G (.ref dx) (.dct l)) : Is c G (.ref x) (.obj C l) := by
  cases hd with
  | @dct _ kvs _ h0 h1 h2 h3 =>
    obtain ⟨o, es, ep, ho, hc, hdd, hk, hp, hn⟩ := h1
    have ho' : o = dictOf es.toList ep := by
      obtain ⟨c, d, dt, sl⟩ := o
      obtain ⟨g1, g2, g3⟩ := hc
      dsimp only at g1 g2 g3 hdd
      rw [g1, g2, g3, hdd]
    rw [ho'] at ho
    obtain ⟨a1, a2, a3⟩ := pairs_align hp ⟨h2, h3⟩
    exact .obj hx ho a1 a2 a3

theorem AOk.made {C : Addr} {rest : List Value} {kw : List (Str × Value)} (h : AOk (κ + 1) A) : AOk κ (A.under (.builtin "type.__call__" ⟨.ref C :: rest, kw⟩)) := by
  refine ⟨h.handled, ?_, ?_⟩
  · have e : (Code.builtin "type.__call__" ⟨.ref C :: rest, kw⟩).weight ≤ 1 := by
      show (Code.builtin "type.__call__" ⟨.ref C :: rest, kw⟩).frames + (if (Code.builtin "type.__call__" ⟨.ref C :: rest, kw⟩).isCreation then 1 else 0) + (if (Code.builtin "type.__call__" ⟨.ref C :: rest, kw⟩).isGuard then 1 else 0) + (if (Code.builtin "type.__call__" ⟨.ref C :: rest, kw⟩).isCaller then claimMargin else 0) ≤ 1
      have e1 : (Code.builtin "type.__call__" ⟨.ref C :: rest, kw⟩).frames = 0 := by with_unfolding_all rfl
      have e2 : (Code.builtin "type.__call__" ⟨.ref C :: rest, kw⟩).isGuard = false := by with_unfolding_all rfl
      have e3 : (Code.builtin "type.__call__" ⟨.ref C :: rest, kw⟩).isCaller = false := by with_unfolding_all rfl
      rw [e1, e2, e3]; split <;> decide
    have := h.depth
    show A.depth + (Code.builtin "type.__call__" ⟨.ref C :: rest, kw⟩).weight + κ < _
    omega
  · have e : (Code.builtin "type.__call__" ⟨.ref C :: rest, kw⟩).cUnits ≤ 8 := by
      have e1 : (Code.builtin "type.__call__" ⟨.ref C :: rest, kw⟩).frames = 0 := by with_unfolding_all rfl
      show 1 + 3 * (Code.builtin "type.__call__" ⟨.ref C :: rest, kw⟩).frames ≤ 8
      rw [e1]; decide
    have := h.units
    show A.units + (Code.builtin "type.__call__" ⟨.ref C :: rest, kw⟩).cUnits + 8 * κ + 100 < _
    omega

theorem class_snd {C fI : Addr} {ds : List D} {l : List (Str × D)} (hm : makesIn c.K C = true) (hi : findIn c.K (.ref C) "__init__" = some (some (.ref fI))) (hf : typeIn c.K (.ref fI) = some (.type "function"))
    (hinit : ∀ A G s x dx vs, AOk κ A → Ok c G s k → G.get? x = some (instObj C dx) → Own c G s.heap (.ref dx) (.dct []) → IsL c G vs ds → codeAny (Mo c) A (.call (.ref fI) ⟨.ref x :: vs, []⟩) (fun r s' => match r with | .ok (.ret v) => Made c G s dx k' l v s' | _ => False) s) :
    GoodCall c (κ + 1) C ds k (.obj C l) k' := by
  intro A G s vs hA o hI
  refine wpAny_call ?_
  obtain ⟨h, g, d, t, os⟩ := s
  have hz := Heap.size_push h emptyDict
  have hk₁ : ∀ b ob, h.get? b = some ob → ((h.push emptyDict).push (instObj C h.objs.size)).get? b = some ob := fun b ob e => Heap.get?_push_of_some _ (Heap.get?_push_of_some _ e)
  have hx : ((h.push emptyDict).push (instObj C h.objs.size)).get? (h.objs.size + 1) = some (instObj C h.objs.size) := by rw [← hz]; exact Heap.get?_push_size _ rfl
  have fx : h.get? (h.objs.size + 1) = none := by
    cases q : h.get? (h.objs.size + 1) with
    | none => rfl
    | some ob => exact absurd (Heap.lt_size q) (Nat.not_lt.mpr (Nat.le_succ _))
  have fd : h.get? h.objs.size = none := fresh_size h
  have live : h.get? c.fa ≠ none := o.falive
  have osub : Sub G h := o.sub
  obtain ⟨G₁, g1, g2, g3, g4⟩ := exists_frz (osub.trans hk₁) hx
  have gG : ∀ b, h.get? b = none → G.get? b = none := fun b e => by
    cases q : G.get? b with
    | none => rfl
    | some ob => rw [osub _ _ q] at e; cases e
  have nx : ∀ b, b ≠ h.objs.size + 1 → G.get? b = none → G₁.get? b = none := fun b hb e => by
    cases q : G₁.get? b with
    | none => rfl
    | some ob =>
      rcases g4 b ob q with e' | e'
      · exact absurd e' hb
      · rw [e] at e'; cases e'
  have o₁ : Ok c G₁ ⟨(h.push emptyDict).push (instObj C h.objs.size), g, d, t, os⟩ k :=
    ⟨g2, o.base.mono g1, nx _ (fun e => live (e ▸ fx)) o.nofa, o.feed.at fun ob e => hk₁ _ _ e⟩
  have own : Own c G₁ ((h.push emptyDict).push (instObj C h.objs.size)) (.ref h.objs.size) (.dct []) :=
    .dct (nx _ (Nat.ne_of_lt (Nat.lt_succ_self _)) (gG _ fd)) (fun e => live (e ▸ fd)) (notSysModules o) ((Heap.DictOf.new h).push _) .nil
  refine make_core (makes_of o.K hm) (looks_findIn o.K hi) (fun self => bind_fn o.K self hf) (.inl rfl) (codeAny_mono (hinit _ G₁ _ _ _ vs hA.made o₁ g3 own (hI.mono g1)) fun r s' z => ?_)
  rcases r with e | (v | _ | _ | _) <;> first | exact z.elim | skip
  obtain ⟨rfl, G', o', t', w'⟩ := z
  refine ⟨rfl, ?_⟩
  have tE : StepE c G G' ⟨h, g, d, t, os⟩ s' := by
    refine ⟨g1.trans t'.le, fun a ob e => ?_, fun a ob h1 _ e => t'.keep a ob h1 (fun q => by rw [q, fd] at e; cases e) (hk₁ a ob e), fun a e => ?_, t'.gens, t'.drawn, t'.os⟩
    · rcases t'.new a ob e with q | q | q
      · rcases g4 a ob q with q | q
        · right; left; rw [q]; exact fx
        · exact .inl q
      · right; left
        cases z : h.get? a with
        | none => rfl
        | some ob' => have q : ((h.push emptyDict).push (instObj C h.objs.size)).get? a = none := q; rw [hk₁ _ _ z] at q; cases q
      · right; left; rw [q]; exact fd
    · obtain ⟨ob, z⟩ := Option.ne_none_iff_exists'.mp e
      exact t'.live a (by rw [hk₁ a ob z]; simp)
  obtain ⟨G₂, o₂, t₂, i₂, _, s₂⟩ := frzD o' tE w' fd
  exact PostE.mk' o₂ t₂ (Is.ofDct (s₂ _ _ (t'.le _ _ g3)) i₂)
end
end Mine

-- G22
namespace Mine

section
variable {c : Cx} {PE : Env} {G G' : Heap} {s s' : Shared} {k k' : Nat} {m : Str → Option Value} {vars vars' : Vars} {κ : Nat} {A : Around} {cl : Cl} {C x dx : Addr} {sets : Str → Bool} {ok : Str → Bool} {J : Heap → (Str → Option Value) → Prop}
theorem Is.hideFlat {v : Value} {d : D} {dx : Addr} (i : Is c G v d) (hf : flat d = true) (hc : ∀ ob, G.get? dx = some ob → ob.cls = .type "dict") : Is c (G.hide dx) v d := by
  cases d <;> first | cases hf | skip
  · cases i; exact .none
  · rename_i l
    cases i with
    | @lst a vs n _ h1 h2 h3 =>
      have hne : a ≠ dx := by
        rintro rfl
        have := hc _ h1
        have : Value.type "list" = Value.type "dict" := this
        injection this with h
        exact absurd h (by decide)
      obtain ⟨ys, hy⟩ := Option.isSome_iff_exists.mp hf
      have hy := allStr_map hy
      subst hy
      refine .lst (n := n) ((Heap.hide_ne G hne).trans h1) h2 fun i v d e1 e2 => ?_
      have := h3 i v d e1 e2
      rw [List.getElem?_map, Option.map_eq_some_iff] at e2
      obtain ⟨y, _, rfl⟩ := e2
      cases this
      exact .str _ _


theorem hide_some {h : Heap} {dx b : Addr} {ob : Obj} (e : (h.hide dx).get? b = some ob) : b ≠ dx ∧ h.get? b = some ob :=
  ⟨fun q => (by rw [q, Heap.hide_self] at e; cases e), Heap.of_hide e⟩
/-- a call that is handed the own self: its dict stands still meanwhile -/
theorem callSelf {dn : Str} {f : Addr} {l : List (Str × D)} {ds : List D} {vs : List Value} {r : D × Nat} (st : St c PE G s k m vars) (hd : vars.lookup dn = some (true, .dct l)) (hm : m dn = some (.ref dx)) (gx : G.get? x = some (instObj C dx)) (hA : AOk κ A)
    (hc : GoodCall c κ f (.obj C l :: ds) k r.1 r.2) (hI : IsL c G vs ds) (hp : flat r.1 = true) {Q : Value → Shared → Prop} (hq : ∀ v s' G', Ok c G' s' r.2 → StepE c G G' s s' → Is c G' v r.1 → Q v s') :
    wpAny (Mo c) A (call (.ref f) (.ref x :: vs)) Q NoE s := by
  have w := st.ownAt hd hm
  obtain ⟨o, ho, cls⟩ : ∃ o, s.heap.get? dx = some o ∧ o.cls = .type "dict" := by
    cases w with
    | dct _ _ _ h _ => obtain ⟨o', es, ep, e, hc, _⟩ := h; exact ⟨o', e, hc.1⟩
  obtain ⟨G₁, g1, g2, g3, g4⟩ := exists_frz st.ok.sub ho
  have o₁ : Ok c G₁ s k := by
    refine ⟨g2, st.ok.base.mono g1, ?_, st.ok.feed⟩
    cases q : G₁.get? c.fa with
    | none => rfl
    | some o' => exact (g4 _ _ q).elim (fun e => absurd e.symm w.off.2) fun e => nopO <| st.ok.nofa.symm.trans e
  refine wseq (hc A G₁ s _ hA o₁ (.cons (Is.ofDct (g1 _ _ gx) (w.frz g1 ho g3)) (hI.mono g1))) fun v s' p => ?_
  obtain ⟨G₂, o₂, t₂, i₂⟩ := p.is
  have sb : Sub G (G₂.hide dx) := fun b ob e => (Heap.hide_ne G₂ (fun q => nopO <| (q ▸ e).symm.trans w.off.1)).trans (t₂.le _ _ (g1 _ _ e))
  refine hq v s' _ ⟨fun b ob e => o₂.sub _ _ (hide_some e).2, st.ok.base.mono sb, ?_, o₂.feed⟩ ⟨sb, fun b ob e => ?_, t₂.keep, t₂.live, t₂.gens, t₂.drawn, t₂.os⟩ (i₂.hideFlat hp fun ob e => ?_)
  · cases q : (G₂.hide dx).get? c.fa with
    | none => rfl
    | some ob => exact nopO <| o₂.nofa.symm.trans (hide_some q).2
  · rcases t₂.new b ob (hide_some e).2 with q | q | q
    · exact (g4 b ob q).elim (fun q => absurd q (hide_some e).1) .inl
    · exact .inr (.inl q)
    · exact q.elim
  · rw [t₂.le _ _ g3] at e
    cases e
    exact cls

/-- the object that is being made, and its own dict -/
noncomputable def JS (x dx C : Addr) (G : Heap) (m : Str → Option Value) : Prop := G.get? x = some (instObj C dx) ∧ m (⟨#[115, 101, 108, 102]⟩ : Str) = some (.ref x) ∧ m (⟨#[37, 100]⟩ : Str) = some (.ref dx)
theorem neName {a b y : Str} (h : (!(y == a) && !(y == b)) = true) : a ≠ y ∧ b ≠ y := ⟨fun e => (by rw [e, beq_self_eq_true] at h; exact nopB <| h), fun e => (by rw [e, beq_self_eq_true, Bool.and_comm] at h; exact nopB <| h)⟩
theorem JS.jok : JOk (JS x dx C) okName := ⟨fun _ _ _ h j => ⟨h _ _ j.1, j.2⟩, fun y v G m hy j => ⟨j.1, (upd_ne (neName hy).1).trans j.2.1, (upd_ne (neName hy).2).trans j.2.2⟩⟩
theorem Yl.selfD {o : Option (Bool × D)} : Yl cl (selfD o) fun l => o = some (true, .dct l) ∧ l.length ≤ 900 := by
  cases o with
  | none => exact .fail
  | some q =>
    obtain ⟨b, d⟩ := q
    cases b <;> cases d
    case true.dct l => exact .ask fun h => .ret ⟨rfl, dec h⟩
    all_goals exact .fail
/-- an object's own method upon itself -/
inductive ScP (tb : Tb) (cl : Cl) (C : Addr) (l : List (Str × D)) (mt : Str) (ds : List D) (k : Nat) (r : D × Nat) : Prop
  | mk (key : Str) (h1 : tb.meth C mt = some key) (h2 : l.lookup mt = none) (h3 : cl key (.obj C l :: ds) k = some r) (h4 : flat r.1 = true) : ScP tb cl C l mt ds k r
theorem Yl.selfCall {tb : Tb} {l : List (Str × D)} {mt : Str} {ds : List D} : Yl cl (selfCall tb C l mt ds k) (ScP tb cl C l mt ds k) := .bind (.lift fun key h => h) fun key h1 => .ask fun h2 => .call fun r h3 => .ask fun h4 => .ret ⟨key, h1, lnone h2, h3, h4⟩
/-- an own dict's value, by its name -/
theorem own_getL {l : List (Str × D)} {a : Str} (w : Own c G s.heap (.ref dx) (.dct l)) : ∃ es ep, s.heap.get? dx = some (dictOf es ep) ∧ match l.lookup a with
    | some d => ∃ v, getL a es = some (some v) ∧ Is c G v d
    | none => getL a es = some none := by
  cases w with
  | @dct _ kvs _ k1 k2 k0 k3 k4 =>
    obtain ⟨o, es', ep, ho, hcx, hdd, hk, hp, hn⟩ := k3
    have ho' : o = dictOf es'.toList ep := by
      obtain ⟨c, d, dt, sl⟩ := o
      obtain ⟨g1, g2, g3⟩ := hcx
      dsimp only at g1 g2 g3 hdd
      rw [g1, g2, g3, hdd]
    obtain ⟨a1, a2, a3⟩ := pairs_align hp k4
    exact ⟨es'.toList, ep, ho' ▸ ho, getL_of a1 a2 a3 a⟩
/-- self.mt(..) -/
theorem selfCall_snd (T : TbOk c) (H : GoodCl c κ cl) {l : List (Str × D)} {mt : Str} {es : List Expr} {y : List D × Nat} {r : D × Nat} {p ap cp : Pos} (st : Sj (JS x dx C) c PE G s k m vars) (hA : AOk κ A) (hl : isLoc PE.scope.names (⟨#[115, 101, 108, 102]⟩ : Str) = true) (hs : sameLine ap cp = true) (hz : es.length < 29)
    (hd : vars.lookup (⟨#[37, 100]⟩ : Str) = some (true, .dct l)) (h2 : Evs c κ PE vars k es y) (h3 : ScP c.tb cl C l mt y.1 y.2 r) {Q : Value → Shared → Prop}
    (hq : ∀ v s' G', Ok c G' s' r.2 → StepE c G G' s s' → Is c G' v r.1 → Q v s') :
    wpAny (Mo c) A (eval (.Call (.Attribute (.Name (⟨#[115, 101, 108, 102]⟩ : Str) p) mt ap) es [] cp) PE) Q NoE s := by
  obtain ⟨key, m1, m2, m3, m4⟩ := h3
  obtain ⟨st, gx, js, jd⟩ := st
  obtain ⟨t1, t2, t3, t4⟩ := T.meth _ _ _ m1
  refine methodCall_any rfl hs (h2.noStar _) hz (st.fr.load hl js fun pl => ?_)
  obtain ⟨es', ep, ho, hg⟩ := own_getL (a := mt) (st.ownAt hd jd)
  rw [m2] at hg
  have I : W.InstAt s.heap x (instObj C dx) C (some (dictOf es' ep)) := ⟨st.ok.sub _ _ gx, rfl, rfl, ho⟩
  refine method_fn st.ok.K I (plainGet_of t1).1 (plainGet_of t1).2 t2 (beq_iff_eq.mp t3) (by show (lookIn mt (dictOf es' ep)).map _ = _; rw [lookIn_dict, hg]; rfl) ?_
  exact h2.callQ cp (first := [.ref x]) hA st t4 fun vs s₁ G₁ o₁ t₁ i₁ => callSelf (st.step t₁ o₁) hd jd (t₁.le _ _ gx) hA (H _ _ _ r.1 r.2 m3) i₁ m4 fun v s' G' a b e => hq v s' G' a (t₁.trans b) e
theorem swaps_attr {PE : Env} (e o : Expr) (a : Str) (p : Pos) (line : Nat) : swapsWith e (some (.Attribute o a p)) line PE = pure false := by
  cases e <;> rfl

/-- an own attribute is read -/
theorem selfAttr_snd (T : TbOk c) {l : List (Str × D)} {a : Str} {d : D} {p q : Pos} (st : Sj (JS x dx C) c PE G s k m vars) (hl : isLoc PE.scope.names (⟨#[115, 101, 108, 102]⟩ : Str) = true) (hd : vars.lookup (⟨#[37, 100]⟩ : Str) = some (true, .dct l)) (h2 : l.lookup a = some d) (ha : c.tb.attr C a = true) {Q : Value → Shared → Prop}
    (hq : ∀ v tk, Is c G v d → Q v { s with toks := tk }) : wpAny (Mo c) A (eval (.Attribute (.Name (⟨#[115, 101, 108, 102]⟩ : Str) p) a q) PE) Q NoE s := by
  obtain ⟨st, gx, js, jd⟩ := st
  obtain ⟨es, ep, ho, hg⟩ := own_getL (a := a) (st.ownAt hd jd)
  rw [h2] at hg
  obtain ⟨v, g1, g2⟩ := hg
  obtain ⟨t1, t2, at', t3, t4⟩ := T.attr C a ha
  have I : W.InstAt s.heap x (instObj C dx) C (some (dictOf es ep)) := ⟨st.ok.sub _ _ gx, rfl, rfl, ho⟩
  exact Attribute_plain rfl (st.fr.load hl js (get_value st.ok.K I (plainGet_of t1).1 (findObj_own t2 t3 t4 (by rw [lookIn_dict]; exact g1)) g2.handed (hq v _ g2)))
/-- an own attribute is set -/
theorem set_snd {m' : Str → Option Value} {l : List (Str × D)} {a : Str} {d : D} {v : Value} (st : Sj (JS x dx C) c PE G s k m vars) (o : Ok c G' s' k') (t : StepE c G G' s s') (hd : vars.lookup (⟨#[37, 100]⟩ : Str) = some (true, .dct l)) (hl : l.length ≤ 900) (S : SetOk c.K C a) (hv : Is c G' v d) :
    wpAny (Mo c) A (setAttr (.ref x) a v) (fun _ s₂ => PostJ (JS x dx C) c PE G s m vars (.nxt, vset (⟨#[37, 100]⟩ : Str) true (.dct (dset a d l)) vars, k') .next s₂) NoE s' := by
  have st' := st.step JS.jok t o
  exact st'.st.setSelf hd st'.j.2.2 (o.sub _ _ st'.j.1) S hl hv fun h' tk a1 a2 _ => ⟨G', m, ⟨a1, st'.j⟩, (Go.ofE t).trans a2, .nxt⟩
theorem isSelf_of {sc : Kinds} {y : Str} (h : isSelf sc y = true) : y = (⟨#[115, 101, 108, 102]⟩ : Str) ∧ isLoc sc (⟨#[115, 101, 108, 102]⟩ : Str) = true := ⟨eq_of_beq (and2 h).1, (and2 h).2⟩
theorem Is.src {v : Value} {d : D} {l : List D} (x₀ : St c PE G s k m vars) (i : Is c G v d) (h : d = .lst l ∨ d = .tup l) (hA : AOk κ A) : ∃ G₁, Ok c G₁ s k ∧ StepE c G G₁ s s ∧ IterOf c A G₁ s v l ∧ ∀ b, v = .ref b → ¬ HotS PE m vars b := by
  obtain ⟨a, ob, rfl, ha⟩ := i.seq_addr h
  exact ⟨G, x₀.ok, .refl _ _, iter_seq x₀.ok (.inl i) h hA.handled, fun b e => by cases e; exact x₀.nothot_frz ha⟩
theorem self_sq (T : TbOk c) {l : List (Str × D)} {a : Str} {d : D} {items : List D} {p q : Pos} (hl : isLoc PE.scope.names (⟨#[115, 101, 108, 102]⟩ : Str) = true) (hd : vars.lookup (⟨#[37, 100]⟩ : Str) = some (true, .dct l)) (h2 : l.lookup a = some d) (ha : c.tb.attr C a = true) (h : d = .lst items ∨ d = .tup items) :
    SqP (JS x dx C) c κ PE vars k (.Attribute (.Name (⟨#[115, 101, 108, 102]⟩ : Str) p) a q) (items, k) := ⟨rfl, fun A G s m hA st => selfAttr_snd T st hl hd h2 ha fun v tk iv => by
      obtain ⟨G₂, q1, q2, q3, q4⟩ := iv.src (st.st.toks tk) h hA
      exact ⟨G₂, q1, (StepE.toks tk).trans q2, q3, q4⟩⟩
theorem evMV_snd {ev : Stmt → EvS} (T : TbOk c) (H : GoodCl c κ cl) (hi : CInj PE) (hsets : ∀ a, sets a = true → SetOk c.K C a) (B : SndS (JS x dx C) c κ PE cl ev) {st : Stmt} (v : SM st) : Yl cl (evMV c.tb C sets PE.scope.names ev vars k v) (StP (JS x dx C) c κ PE st vars k) := by
  have S := evE_snd T H 40 PE vars
  cases v with
  | asc y py a pa z pz mt ap cp p =>
    exact .gd fun hc => .bind .selfD fun l hd => .bind .selfCall fun r h => .ret fun A G s m hA st => by
      obtain ⟨h1, h2, h3⟩ := and3 hc
      obtain ⟨rfl, hl⟩ := isSelf_of (and2 h1).1
      obtain ⟨rfl, _⟩ := isSelf_of (and2 h1).2
      exact plainObj_wpAny_Assign_Attribute (selfCall_snd T H st hA hl h2 (by show 0 < 29; decide) hd.1 (.nil k) h fun v s' G' o t i => (st.st.step t o).fr.load hl st.j.2.1 (set_snd (m' := m) st o t hd.1 hd.2 (hsets a h3) i)) rfl
  | ase y py a pa e p =>
    exact .gd fun hc => .bind .selfD fun l hd => .bind (S.ev k e) fun r h => .ret fun A G s m hA st => by
      obtain ⟨rfl, hl⟩ := isSelf_of (and2 hc).1
      exact plainObj_wpAny_Assign_Attribute (h.use hA st.st fun v s' G' o t i => (st.st.step t o).fr.load hl st.j.2.1 (set_snd (m' := m) st o t hd.1 hd.2 (hsets a (and2 hc).2) i)) (swaps_attr _ _ _ _ _)
  | exp y py mt ap es cp p =>
    exact .gd fun hc => .bind .selfD fun l hd => .bind (S.l es k) fun y h => .bind .selfCall fun r g => by
      obtain ⟨d, k'⟩ := r
      cases d
      case none =>
        exact .ret fun A G s m hA st => by
          obtain ⟨h1, h2, h3⟩ := and3 hc
          obtain ⟨rfl, hl⟩ := isSelf_of h1
          exact wpAny_Expr (selfCall_snd T H st hA hl h2 (dec h3) hd.1 h g fun v s' G' o t i => by
            cases i
            show PostJ _ _ _ _ _ _ _ _ _ _
            exact ⟨G', m, st.step JS.jok t o, Go.ofE t, .nxt⟩) (interactive_false st.st.fr.kind) rfl
      all_goals exact .fail
  | fora y py z pz a pa bd p =>
    exact .gd fun hc => .bind .selfD fun l hd => .bind (.lift fun d h => h) fun d h => .bind .asL fun items g => (evFor_snd (fun d vs => Yl.bindT) (evSs_snd B bd) _ _ _).mono fun r w => by
      obtain ⟨h1, h2, h3⟩ := and3 hc
      obtain ⟨rfl, hl⟩ := isSelf_of h1
      exact s_for hi JS.jok (fun _ _ e => by cases e; exact h2) (self_sq T hl hd.1 h h3 g) w
  | forn y py z pz bd p => exact .gd fun hy => .bind (S.ev k _) fun x h => .bind .asL fun items g => (evFor_snd (fun d vs => Yl.bindT) (evSs_snd B bd) _ _ _).mono fun r w => s_for hi JS.jok (fun _ _ e => by cases e; exact hy) (h.sq g) w
  | iff t b p => exact .bind (S.tr k t) fun x h => .test (fun q => (evSs_snd B b _ _).mono fun r g => s_if JS.jok h (by rw [if_pos q]; exact g)) fun q => .ret (s_if JS.jok h (by rw [q]; exact b_nil))
  | bad st => exact .fail
theorem evM_snd (T : TbOk c) (H : GoodCl c κ cl) (hi : CInj PE) (hsets : ∀ a, sets a = true → SetOk c.K C a) : ∀ n, SndS (JS x dx C) c κ PE cl (evM c.tb C sets PE.scope.names n)
  | 0, st, vars, k => .fail
  | n + 1, st, vars, k => evMV_snd T H hi hsets (evM_snd T H hi hsets n) (viewM st)
end
end Mine

-- G23
namespace Mine

section
variable {c : Cx} {PE : Env} {G G' : Heap} {s s' : Shared} {k k' : Nat} {m : Str → Option Value} {vars vars' : Vars} {κ : Nat} {A : Around} {cl : Cl} {C x dx d0 l0 : Addr} {es : List DictEntry} {en : Nat} {tk : TkF}
theorem AOk.le (h : AOk (κ + 1) A) : AOk κ A := ⟨h.handled, Nat.lt_of_succ_lt h.depth, by have := h.units; omega⟩
theorem GoodCl.le (H : GoodCl c κ cl) : GoodCl c (κ + 1) cl := fun key ds k d k' h A G s vs hA => H key ds k d k' h A G s vs hA.le
/-- the object that is being made, its entries and its stands apart -/
structure JT (x dx C d0 l0 : Addr) (es : List DictEntry) (en : Nat) (G : Heap) (m : Str → Option Value) : Prop where
  gx : G.get? x = some (instObj C dx)
  gd : G.get? dx = some (dictOf es en)
  sf : m (⟨#[115, 101, 108, 102]⟩ : Str) = some (.ref x)
  e : m (⟨#[37, 101]⟩ : Str) = some (.ref d0)
  s : m (⟨#[37, 115]⟩ : Str) = some (.ref l0)
theorem JT.jok : JOk (JT x dx C d0 l0 es en) okNameK := ⟨fun _ _ _ h j => ⟨h _ _ j.gx, h _ _ j.gd, j.sf, j.e, j.s⟩, fun y v G m hy j => by
  obtain ⟨h1, h2, h3⟩ := and3 hy
  exact ⟨j.gx, j.gd, (upd_ne (neName h1).1).trans j.sf, (upd_ne fun e => by rw [e, beq_self_eq_true] at h2; exact nopB <| h2).trans j.e, (upd_ne fun e => by rw [e, beq_self_eq_true] at h3; exact nopB <| h3).trans j.s⟩⟩
structure EsOk (es : List DictEntry) (d0 l0 : Addr) : Prop where
  e : getL (⟨#[101, 110, 116, 114, 105, 101, 115]⟩ : Str) es = some (some (.ref d0))
  s : getL (⟨#[115, 116, 97, 110, 100, 115]⟩ : Str) es = some (some (.ref l0))
  t : getL (⟨#[116, 97, 107, 101, 95, 115, 105, 103]⟩ : Str) es = some none
theorem Yl.strV {o : Option (Bool × D)} : Yl cl (strV o) fun y => o = some (false, .str y) := by
  cases o with
  | none => exact .fail
  | some q =>
    obtain ⟨b, d⟩ := q
    cases b <;> cases d
    case false.str l => exact .ret rfl
    all_goals exact .fail
theorem readT {a : Str} {p q : Pos} {r : Addr} (T : TbOk c) (st : Sj (JT x dx C d0 l0 es en) c PE G s k m vars) (hl : isLoc PE.scope.names (⟨#[115, 101, 108, 102]⟩ : Str) = true) (ha : c.tb.attr C a = true) (hg : getL a es = some (some (.ref r))) {Q : Value → Shared → Prop} (hq : ∀ tk, Q (.ref r) { s with toks := tk }) :
    wpAny (Mo c) A (eval (.Attribute (.Name (⟨#[115, 101, 108, 102]⟩ : Str) p) a q) PE) Q NoE s := by
  obtain ⟨t1, t2, at', t3, t4⟩ := T.attr C a ha
  have I : W.InstAt s.heap x (instObj C dx) C (some (dictOf es en)) := ⟨st.st.ok.sub _ _ st.j.gx, rfl, rfl, st.st.ok.sub _ _ st.j.gd⟩
  exact Attribute_plain rfl (st.st.fr.load hl st.j.sf (get_value st.st.ok.K I (plainGet_of t1).1 (findObj_own t2 t3 t4 (by rw [lookIn_dict]; exact hg)) rfl (hq _)))
theorem Sj.toks {J : Heap → (Str → Option Value) → Prop} (st : Sj J c PE G s k m vars) (tk : Nat) : Sj J c PE G { s with toks := tk } k m vars := ⟨st.st.toks tk, st.j⟩
/-- what self.take_sig(item) does -/
noncomputable def TkP (J : Heap → (Str → Option Value) → Prop) (c : Cx) (κ : Nat) (PE : Env) (cl : Cl) (tk : TkF) : Prop :=
  ∀ (mt it : Str) (pi p ap cp : Pos) (vars : Vars) (k : Nat) (z : Bool × D × Nat), EvP c κ PE vars k (.Name it pi) z → isLoc PE.scope.names (⟨#[115, 101, 108, 102]⟩ : Str) = true → sameLine ap cp = true → Yl cl (tk mt z.2.1 vars z.2.2) fun r => ∀ A G s m, AOk κ A → Sj J c PE G s k m vars →
    ∀ Q : Value → Shared → Prop, (∀ s' G', Sj J c PE G' s' r.2 m r.1 → Go c PE G G' s s' m m vars r.1 → Q .none s') → wpAny (Mo c) A (eval (.Call (.Attribute (.Name (⟨#[115, 101, 108, 102]⟩ : Str) p) mt ap) [.Name it pi] [] cp) PE) Q NoE s
theorem k_ifin (T : TbOk c) (hes : EsOk es d0 l0) {nm y : Str} {pn px pa pc p : Pos} {l : List (Str × D)} {b : List Stmt} (hl : isLoc PE.scope.names (⟨#[115, 101, 108, 102]⟩ : Str) = true) (hn : isLoc PE.scope.names nm = true) (ha : c.tb.attr C (⟨#[101, 110, 116, 114, 105, 101, 115]⟩ : Str) = true) (hy : vars.lookup nm = some (false, .str y)) (he : vars.lookup (⟨#[37, 101]⟩ : Str) = some (true, .dct l)) (h0 : l.lookup y = none) :
    StP (JT x dx C d0 l0 es en) c κ PE (.If (.Compare (.Name nm pn) [.In] [.Attribute (.Name (⟨#[115, 101, 108, 102]⟩ : Str) px) (⟨#[101, 110, 116, 114, 105, 101, 115]⟩ : Str) pa] pc) b [] p) vars k (.nxt, vars, k) := fun A G s m hA st => by
  obtain ⟨v, v1, v2⟩ := st.st.val _ _ _ hy
  refine wpAny_If (wpAny_isTrue_Compare1 (st.st.fr.load hn v1 (readT T st hl ha hes.e fun tk => ?_)) rfl)
  refine (in_snd (a := .str y) (b := .dct l) (r := false) (by show some (l.lookup y).isSome = _; rw [h0]; rfl) _ _ _ _ _ _ _ _ (st.st.ok.toks (tk := tk)) (.inl v2) (.inr (st.st.ownAt he st.j.e))).1 fun tk' => wpAny_truthy_bool ?_
  rw [if_neg (by decide)]
  exact wpAny_execs_nil ⟨G, m, (st.toks tk).toks tk', Go.ofE ((StepE.toks tk).trans (StepE.toks tk')), .nxt⟩
theorem k_put (T : TbOk c) (hes : EsOk es d0 l0) {nm y : Str} {e : Expr} {pn ps px pa p : Pos} {z : Bool × D × Nat} (hl : isLoc PE.scope.names (⟨#[115, 101, 108, 102]⟩ : Str) = true) (hn : isLoc PE.scope.names nm = true) (ha : c.tb.attr C (⟨#[101, 110, 116, 114, 105, 101, 115]⟩ : Str) = true) (hy : vars.lookup nm = some (false, .str y)) (h : EvP c κ PE vars k e z) (g : StoP c PE vars (⟨#[37, 101]⟩ : Str) (.str y) z.2.1 vars') :
    StP (JT x dx C d0 l0 es en) c κ PE (.Assign [.Subscript (.Attribute (.Name (⟨#[115, 101, 108, 102]⟩ : Str) px) (⟨#[101, 110, 116, 114, 105, 101, 115]⟩ : Str) pa) (.Name nm pn) ps] e p) vars k (.nxt, vars', z.2.2) := fun A G s m hA st => by
  obtain ⟨v, v1, v2⟩ := st.st.val _ _ _ hy
  refine wpAny_Assign_Subscript (h.use hA st.st fun u s₁ G₁ o₁ t₁ i₁ => ?_) (swaps_sub _ _ _ _ _)
  have x₁ := st.step JT.jok t₁ o₁
  refine readT T x₁ hl ha hes.e fun tk' => (x₁.st.toks tk').fr.load hn v1 ?_
  exact g.run _ _ _ _ _ _ _ _ _ _ (x₁.st.toks tk') (Is.mono v2 t₁.le) i₁ st.j.e fun h' tk₂ x' t' => ⟨G₁, m, ⟨x', x₁.j⟩, (Go.ofE (t₁.trans (.toks _))).trans t', .nxt⟩
theorem k_app (T : TbOk c) (hes : EsOk es d0 l0) {e : Expr} {px pa ap cp p : Pos} {z : Bool × D × Nat} {l : List D} (hl : isLoc PE.scope.names (⟨#[115, 101, 108, 102]⟩ : Str) = true) (hs : sameLine ap cp = true) (ha : c.tb.attr C (⟨#[115, 116, 97, 110, 100, 115]⟩ : Str) = true) (hx : vars.lookup (⟨#[37, 115]⟩ : Str) = some (true, .lst l)) (hz : l.length ≤ lim) (h : EvP c κ PE vars k e z) :
    StP (JT x dx C d0 l0 es en) c κ PE (.Expr (.Call (.Attribute (.Attribute (.Name (⟨#[115, 101, 108, 102]⟩ : Str) px) (⟨#[115, 116, 97, 110, 100, 115]⟩ : Str) pa) ("append" : Str) ap) [e] [] cp) p) vars k (.nxt, vset (⟨#[37, 115]⟩ : Str) true (.lst (l ++ [z.2.1])) vars, z.2.2) := fun A G s m hA st => by
  refine wpAny_Expr (methodCall_any rfl hs (by rw [starEach_cons (noStarE h.pl)]; rfl) (by show 1 < 29; decide) (readT T st hl ha hes.s fun tk' pl => ?_)) (interactive_false st.st.fr.kind) rfl
  have x₁ := st.toks tk'
  obtain ⟨vs, n, hv, _⟩ := (st.st.ownAt hx st.j.s).lstAt
  refine h.meth1 slot_list_append type_list_append hA x₁.st hv fun v s₁ G₁ o₁ t₁ i₁ => ?_
  have x₂ := x₁.step JT.jok t₁ o₁
  obtain ⟨vs, n, hv, hI⟩ := (x₂.st.ownAt hx st.j.s).lstAt
  exact (u_append l z.2.1).run A G₁ s₁ _ l0 vs n v _ _ o₁ hv hI i₁ hz fun h' vs' n' hs' e' hI' => (x₂.st.turnL s₁.toks hx st.j.s hs' e' hI').elim fun x' t' => ⟨G₁, m, ⟨x', x₂.j⟩, (Go.ofE ((StepE.toks tk').trans t₁)).trans t', .nxt⟩
theorem evKV_snd {ev : Stmt → EvS} (T : TbOk c) (H : GoodCl c κ cl) (hi : CInj PE) (hes : EsOk es d0 l0) (HT : TkP (JT x dx C d0 l0 es en) c κ PE cl tk) (B : SndS (JT x dx C d0 l0 es en) c κ PE cl ev) {st : Stmt} (v : SK st) : Yl cl (evKV c.tb C tk PE.scope.names ev vars k v) (StP (JT x dx C d0 l0 es en) c κ PE st vars k) := by
  have S := evE_snd T H 40 PE vars
  cases v with
  | forr y py iter bd p => exact .gd fun hy => .bind (S.ev k iter) fun x h => .bind .asL fun items g => (evFor_snd (fun d vs => Yl.bindT) (evSs_snd B bd) _ _ _).mono fun r w => s_for hi JT.jok (fun _ _ e => by cases e; exact hy) (h.sq g) w
  | ifin nm pn y px a pa pc b p =>
    exact .gd fun hc => .bind .strV fun z hz => .bind .ownD fun l hd => .ask fun h0 => .ret (by
      obtain ⟨hc, ha⟩ := and2 hc
      obtain ⟨h1, h2, hn⟩ := and3 hc
      obtain ⟨rfl, hl⟩ := isSelf_of h1
      cases eq_of_beq h2
      exact k_ifin T hes hl hn ha hz hd.1 (lnone h0))
  | iff t b p => exact .bind (S.tr k t) fun x h => .test (fun q => (evSs_snd B b _ _).mono fun r g => s_if JT.jok h (by rw [if_pos q]; exact g)) fun q => .ret (s_if JT.jok h (by rw [q]; exact b_nil))
  | put y px a pa nm pn ps it pi p =>
    exact .gd fun hc => .bind .strV fun z hz => .bind (S.ev k _) fun x h => .bind (sto_snd (⟨#[37, 101]⟩ : Str) (.str z) x.2.1) fun v g => .ret (by
      obtain ⟨hc, ha⟩ := and2 hc
      obtain ⟨h1, h2, hn⟩ := and3 hc
      obtain ⟨rfl, hl⟩ := isSelf_of h1
      cases eq_of_beq h2
      exact k_put T hes hl hn ha hz h g)
  | app y px a pa mm ap nm pn cp p =>
    exact .gd fun hc => .bind .ownL fun l hx => .bind (S.ev k _) fun z h => .ret (by
      obtain ⟨hc, ha⟩ := and2 hc
      obtain ⟨hc, hn, hs⟩ := and3 hc
      obtain ⟨h1, h2, h3⟩ := and3 hc
      obtain ⟨rfl, hl⟩ := isSelf_of h1
      cases eq_of_beq h2
      rw [eq_of_beq h3, s_mut.1]
      exact k_app T hes hl hs ha hx.1 hx.2 h)
  | take y px mt ap it pi cp p =>
    exact .gd fun hc => .bind (S.ev k _) fun z h => by
      obtain ⟨rfl, hl⟩ := isSelf_of (and2 hc).1
      exact .bind (HT mt it pi px ap cp vars k z h hl (and2 hc).2) fun r g => .ret fun A G s m hA st => wpAny_Expr (g A G s m hA st _ fun s' G' a b => ⟨G', m, a, b, .nxt⟩) (interactive_false st.st.fr.kind) rfl
  | bad st => exact .fail
theorem evK_snd (T : TbOk c) (H : GoodCl c κ cl) (hi : CInj PE) (hes : EsOk es d0 l0) (HT : TkP (JT x dx C d0 l0 es en) c κ PE cl tk) : ∀ n, SndS (JT x dx C d0 l0 es en) c κ PE cl (evK c.tb C tk PE.scope.names n)
  | 0, st, vars, k => .fail
  | n + 1, st, vars, k => evKV_snd T H hi hes HT (evK_snd T H hi hes HT n) (viewK st)
end
end Mine

-- G24
namespace Mine

section
variable {c : Cx} {PE : Env} {G G' : Heap} {s s' s₁ : Shared} {k k' : Nat} {m m₁ : Str → Option Value} {vars vars' : Vars} {κ : Nat} {A : Around} {cl : Cl} {C x dx d0 l0 : Addr} {es : List DictEntry} {en : Nat}
theorem lk_cons {α : Type} {x y : Str} {v w : α} {r : List (Str × α)} (h : List.lookup y ((x, v) :: r) = some w) : (y = x ∧ w = v) ∨ (y ≠ x ∧ r.lookup y = some w) := by
  rw [List.lookup_cons] at h
  by_cases q : y = x
  · subst q
    rw [beq_self_eq_true] at h
    cases h
    exact .inl ⟨rfl, rfl⟩
  · rw [beq_false_of_ne q] at h
    exact .inr ⟨q, h⟩
theorem lk2 {α : Type} {x y z : Str} {v u w : α} (h : List.lookup y [(x, v), (z, u)] = some w) : (y = x ∧ w = v) ∨ (y = z ∧ w = u) :=
  (lk_cons h).imp id fun q => (lk_cons q.2).elim id fun q => (by cases q.2)
theorem lk1 {α : Type} {x y : Str} {v w : α} (h : List.lookup y [(x, v)] = some w) : y = x ∧ w = v := (lk_cons h).elim id fun q => (by cases q.2)
theorem St.lend (st : St c PE G s k m vars) {scope : Scope} {ow : Vars} (h : ∀ z oo dz, ow.lookup z = some (oo, dz) → oo = true ∧ vars.lookup z = some (true, dz) ∧ scope.names.lookup z = none) : Lend c G s scope m ow :=
  ⟨fun z oo dz hz => by
    obtain ⟨h1, h2, h3⟩ := h z oo dz hz
    obtain ⟨a, g1, g2, _⟩ := st.own h2
    exact ⟨h1, h3, a, g1, g2⟩, fun z z' dz dz' a h1 h2 => st.sep z z' dz dz' a (h _ _ _ h1).2.1 (h _ _ _ h2).2.1⟩
theorem Entr.owned {scope : Scope} {ps : List Str} {vs : List Value} {fz : List (Str × D)} {ow : Vars} {mo : Str → Option Value} (E : Entr c G s s₁ k PE ps vs fz ow mo m₁) (L : Lend c G s scope mo ow) {a : Addr} (h : OwnA m₁ (fzV fz ++ ow) a) : ∃ z d, ow.lookup z = some (true, d) ∧ mo z = some (.ref a) := by
  obtain ⟨z, d, e1, e2⟩ := h
  rcases L.look e1 with ⟨q, _⟩ | ⟨_, q⟩
  · cases q
  · exact ⟨z, d, q, (E.mo z _ d q).symm.trans e2⟩
theorem Yl.ownV {o : Option (Bool × D)} : Yl cl (ownV o) fun d => o = some (true, d) := by
  cases o with
  | none => exact .fail
  | some q =>
    obtain ⟨b, d⟩ := q
    cases b
    · exact .fail
    · exact .ret rfl
theorem Yl.nxtM {f : Fl} : Yl cl (nxtM f) fun _ => f = .nxt := by
  cases f <;> first | exact .ret rfl | exact .fail
theorem ownsES_some (h : ownsES vars = true) {z : Str} {d : D} (hz : vars.lookup z = some (true, d)) : z = (⟨#[37, 101]⟩ : Str) ∨ z = (⟨#[37, 115]⟩ : Str) := by
  have := List.all_eq_true.mp h _ (mem_of_lookup hz)
  rw [Bool.or_eq_true, Bool.or_eq_true] at this
  exact this.imp (fun q => q.elim (fun q => nopB <| q) eq_of_beq) eq_of_beq
/-- what take_sig's body leaves -/
structure TkR (c : Cx) (κ : Nat) (C : Addr) (scopeT : Scope) (bodyT : List Stmt) (pT : Str) (d : D) (e : List (Str × D)) (ss : List D) (vars : Vars) (k : Nat) (w : Vars) (k' : Nat) (e' s' : D) : Prop where
  v1 : vars.lookup (⟨#[37, 101]⟩ : Str) = some (true, .dct e)
  v2 : vars.lookup (⟨#[37, 115]⟩ : Str) = some (true, .lst ss)
  ho : ownsES vars = true
  run : ∀ x dx d0 l0 es en PE, PE.scope = scopeT → CInj PE → EsOk es d0 l0 → BkP (JT x dx C d0 l0 es en) c κ PE bodyT [(pT, false, d), ((⟨#[37, 101]⟩ : Str), true, .dct e), ((⟨#[37, 115]⟩ : Str), true, .lst ss)] k (.nxt, w, k')
  w1 : w.lookup (⟨#[37, 101]⟩ : Str) = some (true, e')
  w2 : w.lookup (⟨#[37, 115]⟩ : Str) = some (true, s')
theorem noTk_p {J : Heap → (Str → Option Value) → Prop} : TkP J c κ PE cl noTk := fun _ _ _ _ _ _ _ _ _ _ _ _ => .fail
theorem tkSig_snd (T : TbOk c) (H : GoodCl c κ cl) {scopeT : Scope} {bodyT : List Stmt} {pT mt : Str} {d : D} {P : Vars × Nat → Prop}
    (h : mt = (⟨#[116, 97, 107, 101, 95, 115, 105, 103]⟩ : Str) → ∀ e ss w k' e' s', TkR c κ C scopeT bodyT pT d e ss vars k w k' e' s' → P (vset (⟨#[37, 101]⟩ : Str) true e' (vset (⟨#[37, 115]⟩ : Str) true s' vars), k')) : Yl cl (tkSig c.tb C scopeT.names pT bodyT mt d vars k) P :=
  .gd fun hm => .bind .ownD fun e v1 => .bind .ownL fun ss v2 => .ask fun ho => .bind .run fun r hr => .bind .nxtM fun _ hf => .bind .ownV fun e' w1 => .bind .ownV fun s' w2 => .ret (by
    obtain ⟨fl, w, k'⟩ := r
    cases hf
    exact h (eq_of_beq hm) e ss w k' e' s' ⟨v1.1, v2.1, ho, fun x dx d0 l0 es en PE hs hi hes => by
      subst hs
      exact evSs_snd (evK_snd T H hi hes noTk_p 20) bodyT _ k _ hr, w1, w2⟩)
/-- the call of take_sig -/
theorem tk_call (T : TbOk c) (hA : AOk (κ + 1) A) (hes : EsOk es d0 l0) {key pT : Str} {bodyT : List Stmt} {scopeT : Scope} (F : FnK c (c.at_ key) [(⟨#[115, 101, 108, 102]⟩ : Str), pT] bodyT scopeT) (hne : scopeT.names.lookup (⟨#[37, 101]⟩ : Str) = none) (hns : scopeT.names.lookup (⟨#[37, 115]⟩ : Str) = none)
    (st : Sj (JT x dx C d0 l0 es en) c PE G s k m vars) {v : Value} {d : D} (iv : Is c G v d) {e : List (Str × D)} {ss : List D} {w : Vars} {e' s₂ : D} (R : TkR c κ C scopeT bodyT pT d e ss vars k w k' e' s₂)
    {Q : Value → Shared → Prop} (hQ : ∀ s' G', Sj (JT x dx C d0 l0 es en) c PE G' s' k' m (vset (⟨#[37, 101]⟩ : Str) true e' (vset (⟨#[37, 115]⟩ : Str) true s₂ vars)) → Go c PE G G' s s' m m vars (vset (⟨#[37, 101]⟩ : Str) true e' (vset (⟨#[37, 115]⟩ : Str) true s₂ vars)) → Q .none s') :
    wpAny (Mo c) A (call (.ref (c.at_ key)) [.ref x, v]) Q NoE s := by
  have L : Lend c G s scopeT m [((⟨#[37, 101]⟩ : Str), true, D.dct e), ((⟨#[37, 115]⟩ : Str), true, D.lst ss)] := st.st.lend fun z oo dz hz => by
    rcases lk2 hz with ⟨rfl, q⟩ | ⟨rfl, q⟩ <;> cases q
    · exact ⟨rfl, R.v1, hne⟩
    · exact ⟨rfl, R.v2, hns⟩
  refine enter F hA st.st.ok rfl (fz := [(pT, d)]) (fun z dz hz => ?_) L fun PE' s₁ m₁ hsc E hA' => ?_
  · obtain ⟨rfl, rfl⟩ := lk1 hz
    exact ⟨v, List.mem_cons_of_mem _ List.mem_cons_self, iv⟩
  · have j₁ : JT x dx C d0 l0 es en G m₁ := ⟨st.j.gx, st.j.gd, E.mp _ _ List.mem_cons_self, (E.mo (⟨#[37, 101]⟩ : Str) true (.dct e) rfl).trans st.j.e, (E.mo (⟨#[37, 115]⟩ : Str) true (.lst ss) rfl).trans st.j.s⟩
    refine wseq (R.run x dx d0 l0 es en PE' hsc E.ci hes _ G s₁ m₁ hA' ⟨E.st, j₁⟩) fun fw s₃ q => ?_
    obtain ⟨G₃, m₃, st₃, t₃, i₃⟩ := q
    cases i₃
    obtain ⟨hh, tk, rfl⟩ := E.same
    obtain ⟨xb, tb⟩ := st.st.back (vars' := vset (⟨#[37, 101]⟩ : Str) true e' (vset (⟨#[37, 115]⟩ : Str) true s₂ vars)) E.keep E.hot st₃.st t₃ ⟨rfl, rfl, rfl⟩ (fun a ha => by
      obtain ⟨z, dz, q1, q2⟩ := E.owned L ha
      rcases lk2 q1 with ⟨rfl, _⟩ | ⟨rfl, _⟩
      · exact ⟨_, _, R.v1, q2⟩
      · exact ⟨_, _, R.v2, q2⟩) fun z oo dz hz => by
      rcases vs_any hz with ⟨rfl, rfl, rfl⟩ | ⟨q1, hz⟩
      · exact .inr ⟨rfl, ⟨_, R.v1⟩, R.w1, by rw [st₃.j.e, st.j.e]⟩
      · rcases vs_any hz with ⟨rfl, rfl, rfl⟩ | ⟨q2, hz⟩
        · exact .inr ⟨rfl, ⟨_, R.v2⟩, R.w2, by rw [st₃.j.s, st.j.s]⟩
        · cases oo with
          | false => exact .inl ⟨rfl, hz⟩
          | true => exact ((ownsES_some R.ho hz).elim q1 q2).elim
    exact hQ _ _ ⟨xb, JT.jok.mono _ _ _ tb.step.le st.j⟩ tb
theorem tk_snd (T : TbOk c) (H : GoodCl c κ cl) (hes : EsOk es d0 l0) {key pT : Str} {bodyT : List Stmt} {scopeT : Scope} (hkey : c.tb.meth C (⟨#[116, 97, 107, 101, 95, 115, 105, 103]⟩ : Str) = some key) (F : FnK c (c.at_ key) [(⟨#[115, 101, 108, 102]⟩ : Str), pT] bodyT scopeT) (hne : scopeT.names.lookup (⟨#[37, 101]⟩ : Str) = none) (hns : scopeT.names.lookup (⟨#[37, 115]⟩ : Str) = none) :
    TkP (JT x dx C d0 l0 es en) c (κ + 1) PE cl (tkSig c.tb C scopeT.names pT bodyT) := fun mt it pi p ap cp vars k z h hl hs => tkSig_snd T H fun hm e ss w k' e' s' R A G s m hA st Q hQ => by
  subst hm
  obtain ⟨t1, t2, t3, t4⟩ := T.meth _ _ _ hkey
  have I : W.InstAt s.heap x (instObj C dx) C (some (dictOf es en)) := ⟨st.st.ok.sub _ _ st.j.gx, rfl, rfl, st.st.ok.sub _ _ st.j.gd⟩
  refine methodCall_any rfl hs (by rw [starEach_cons (noStarE h.pl)]; rfl) (by show 1 < 29; decide) (st.st.fr.load hl st.j.sf fun pl => ?_)
  refine method_fn st.st.ok.K I (plainGet_of t1).1 (plainGet_of t1).2 t2 (beq_iff_eq.mp t3) (by show (lookIn (⟨#[116, 97, 107, 101, 95, 115, 105, 103]⟩ : Str) (dictOf es en)).map _ = _; rw [lookIn_dict, hes.t]; rfl) ?_
  refine (Evs.cons h (.nil _)).callQ cp (first := [.ref x]) hA st.st t4 fun vs s₁ G₁ o₁ t₁ i₁ => ?_
  obtain ⟨v, vs, rfl, iv, i₁⟩ := i₁.cons_inv
  cases i₁.nil_inv
  exact tk_call T hA hes F hne hns (st.step JT.jok t₁ o₁) iv R fun s' G' a b => hQ s' G' a ((Go.ofE t₁).trans b)
end
end Mine

-- G25
namespace Mine

section
variable {c : Cx} {PE : Env} {G G' G₁ G₂ : Heap} {s s' s₀ s₁ s₂ : Shared} {k k' k₁ : Nat} {m : Str → Option Value} {vars vars' : Vars} {κ : Nat} {A : Around} {cl : Cl} {C x dx d0 l0 l1 : Addr} {es : List DictEntry} {en : Nat} {y z : Str} {d : D} {a : Addr}
theorem Is.hide : ∀ {n : Nat} {v : Value} {d : D}, Is c G v d → noDct n d = true → (∀ ob, G.get? dx = some ob → ob.cls = .type "dict") → Is c (G.hide dx) v d := by
  intro n
  induction n with
  | zero => exact fun _ h => nopB <| h
  | succ n ih =>
    intro v d i h hc
    have seq : ∀ {a : Addr} {t : String} {r : Data}, t ≠ "dict" → G.get? a = some { cls := .type t, data := r } → (G.hide dx).get? a = some { cls := .type t, data := r } := fun ne e => (Heap.hide_ne G fun q => ne (Value.type.inj (hc _ (q ▸ e)))).trans e
    cases i with
    | none => exact .none
    | bool b => exact .bool b
    | int i t => exact .int i t
    | str x t => exact .str x t
    | feed => exact .feed
    | tup h1 h2 h3 => exact .tup (seq (by decide) h1) h2 fun i v d e1 e2 => ih (h3 i v d e1 e2) (List.all_eq_true.mp h d (List.mem_of_getElem? e2)) hc
    | lst h1 h2 h3 => exact .lst (seq (by decide) h1) h2 fun i v d e1 e2 => ih (h3 i v d e1 e2) (List.all_eq_true.mp h d (List.mem_of_getElem? e2)) hc
    | dct => exact nopB <| h
    | obj => exact nopB <| h
theorem Step.comp {hot : Addr → Prop} (a : Step c G G₁ s s₁ (fun b => b = dx)) (b : Step c G₁ G₂ s₁ s₂ hot) (hh : ∀ z, hot z → s.heap.get? z = none ∨ z = dx) : Step c G G₂ s s₂ (fun b => b = dx) := by
  refine ⟨a.le.trans b.le, fun z o e => ?_, fun z o h1 h2 e => b.keep z o h1 (fun q => ?_) (a.keep z o h1 h2 e), fun z e => b.live z (a.live z e), b.gens.trans a.gens, b.drawn.trans a.drawn, b.os.trans a.os⟩
  · rcases b.new z o e with q | q | q
    · exact a.new z o q
    · refine .inr (.inl ?_)
      cases w : s.heap.get? z with
      | none => rfl
      | some o' => exact absurd q (a.live z fun e => nopO <| w.symm.trans e)
    · exact .inr (hh z q)
  · rcases hh z q with q | q
    · exact nopO <| q.symm.trans e
    · exact h2 q
theorem St.sub (x : St c PE G s k m vars) (h : ∀ z oo d, vars'.lookup z = some (oo, d) → vars.lookup z = some (oo, d)) : St c PE G s k m vars' :=
  ⟨x.ok, x.fr, x.hotG, fun z o d e => x.val z o d (h _ _ _ e), fun z z' d d' a e1 e2 => x.sep z z' d d' a (h _ _ _ e1) (h _ _ _ e2), fun z d a e => x.hot z d a (h _ _ _ e)⟩
theorem Fram.over {h : Heap} (F : Fram PE h m) {v : Value} (hy : PE.kindOf y = none) : Fram PE h (upd y v m) := by
  have ne : ∀ {z : Str} {kd : NameKind}, PE.kindOf z = some kd → z ≠ y := fun q e => nopO <| (e ▸ q).symm.trans hy
  obtain ⟨ml, h1, h2⟩ := F.loc
  refine ⟨F.kind, F.glob, F.bl, ⟨ml, h1, fun z h0 hz => (h2 z h0 hz).trans (upd_ne (ne hz)).symm⟩, fun z hz => ?_⟩
  obtain ⟨a, g1, g2⟩ := F.cel z hz
  exact ⟨a, g1, by rw [upd_ne (ne hz)]; exact g2⟩
theorem app1 {oo : Bool} {e : D} (h : (vars ++ [(y, true, d)]).lookup z = some (oo, e)) : vars.lookup z = some (oo, e) ∨ (z = y ∧ oo = true ∧ e = d) := by
  rw [lookApp] at h
  cases q : vars.lookup z with
  | some r => rw [q] at h; exact .inl h
  | none =>
    rw [q] at h
    obtain ⟨h1, h2⟩ := lk1 h
    cases h2
    exact .inr ⟨h1, rfl, rfl⟩
/-- an own value more, by a name that no text has -/
theorem St.add (x : St c PE G s k m vars) (hk : PE.kindOf y = none) (hy : vars.lookup y = none) (w : Own c G s.heap (.ref a) d) (hf : ¬ FHot PE a) (hn : ∀ z dz, vars.lookup z = some (true, dz) → m z ≠ some (.ref a)) : St c PE G s k (upd y (.ref a) m) (vars ++ [(y, true, d)]) := by
  have ne : ∀ {z : Str} {q : Bool × D}, vars.lookup z = some q → z ≠ y := fun q e => nopO <| (e ▸ q).symm.trans hy
  refine ⟨x.ok, x.fr.over hk, x.hotG, fun z oo dz h => ?_, fun z z' d d' b e1 e2 g1 g2 => ?_, fun z dz b h g => ?_⟩
  · rcases app1 h with h | ⟨rfl, rfl, rfl⟩
    · rw [upd_ne (ne h)]
      exact x.val _ _ _ h
    · exact ⟨_, upd_eq, w⟩
  · rcases app1 e1 with h1 | ⟨rfl, _⟩
    · rw [upd_ne (ne h1)] at g1
      rcases app1 e2 with h2 | ⟨rfl, _⟩
      · rw [upd_ne (ne h2)] at g2
        exact x.sep _ _ _ _ _ h1 h2 g1 g2
      · rw [upd_eq] at g2
        cases g2
        exact absurd g1 (hn _ _ h1)
    · rw [upd_eq] at g1
      cases g1
      rcases app1 e2 with h2 | ⟨h, _⟩
      · rw [upd_ne (ne h2)] at g2
        exact absurd g2 (hn _ _ h2)
      · exact h.symm
  · rcases app1 h with h | ⟨rfl, _⟩
    · rw [upd_ne (ne h)] at g
      exact x.hot _ _ _ h g
    · rw [upd_eq] at g
      cases g
      exact hf
/-- one frozen name alone, in another frozen part -/
theorem St.one (x : St c PE G s k m vars) (o : Ok c G' s k') (hf : ∀ a, FHot PE a → G'.get? a = none) {v : Value} (hm : m y = some v) (i : Is c G' v d) : St c PE G' s k' m [(y, false, d)] :=
  ⟨o, x.fr, fun a h => ⟨hf a h, (x.hotG a h).2⟩, fun z oo dz h => by
    obtain ⟨rfl, q⟩ := lk1 h
    cases q
    exact ⟨v, hm, i⟩, fun z _ dz _ a e => (nomatch (lk1 e).2), fun z dz a e => (nomatch (lk1 e).2)⟩
theorem getL_pairs {prog : Program} {w : World} {kvs : List (Str × Value)} (hp : Pairs (PySem.strKind prog w) es kvs) (n : Str) : getL n es = some (valueAt kvs n) := by
  induction hp with
  | nil => rfl
  | @cons e kv es kvs h1 h2 _ ih =>
    obtain ⟨t, et⟩ := Value.isStrOf_shape h1
    obtain ⟨hh, ek, ev⟩ := e
    dsimp only at et h2
    subst et
    unfold getL valueAt at ih ⊢
    rw [List.find?_cons, List.find?_cons]
    by_cases q : kv.1 = n
    · subst q
      simp [Value.isStr, h2]
    · have q' : (Value.str kv.1 t).isStr n = false := beq_false_of_ne q
      dsimp only
      rw [q', decide_eq_false q]
      exact ih
theorem dict_obj {h : Heap} {kvs : List (Str × Value)} (hd : h.DictOf (PySem.strKind c.prog c.w) dx kvs) : ∃ es en, h.get? dx = some (dictOf es en) ∧ (∀ h' : Heap, h'.get? dx = some (dictOf es en) → h'.DictOf (PySem.strKind c.prog c.w) dx kvs) ∧ ∀ n, getL n es = some (valueAt kvs n) := by
  obtain ⟨o, es', ep, ho, hcx, hdd, hk, hp, hn⟩ := hd
  have ho' : o = dictOf es'.toList ep := by
    obtain ⟨c, d, dt, sl⟩ := o
    obtain ⟨g1, g2, g3⟩ := hcx
    dsimp only at g1 g2 g3 hdd
    rw [g1, g2, g3, hdd]
  exact ⟨_, ep, ho' ▸ ho, fun h' e => ⟨o, es', ep, ho' ▸ e, hcx, hdd, hk, hp, hn⟩, getL_pairs hp⟩
/-- an object's own dict, as it is filled with new objects -/
structure Fill (c : Cx) (PE : Env) (G : Heap) (s₀ s : Shared) (k : Nat) (m : Str → Option Value) (vars : Vars) (dx : Addr) (obs : List (Str × Addr × Obj)) : Prop where
  st : St c PE G s k m vars
  dd : s.heap.DictOf (PySem.strKind c.prog c.w) dx (obs.map fun q => (q.1, .ref q.2.1))
  keep : ∀ b ob, b ≠ dx → s₀.heap.get? b = some ob → s.heap.get? b = some ob
  same : ∃ h tk, s = { s₀ with heap := h, toks := tk }
  new : ∀ q ∈ obs, q.2.1 ≠ dx ∧ s₀.heap.get? q.2.1 = none ∧ s.heap.get? q.2.1 = some q.2.2 ∧ (q.2.1 == sysModules) = false
  sep : (obs.map fun q => q.2.1).Nodup
theorem Fill.next {obs : List (Str × Addr × Obj)} (F : Fill c PE G s₀ s k m vars dx obs) (gx : G.get? x = some (instObj C dx)) (dG : G.get? dx = none) (df : dx ≠ c.fa) (hh : ¬ HotS PE m vars dx) {a : Str} (S : SetOk c.K C a) (hsf : m (⟨#[115, 101, 108, 102]⟩ : Str) = some (.ref x)) (hl : isLoc PE.scope.names (⟨#[115, 101, 108, 102]⟩ : Str) = true) {o : Obj} (hz : obs.length ≤ 900) {e : Expr} {p p2 pos : Pos}
    (hev : ∀ Q : Value → Shared → Prop, Q (.ref s.heap.objs.size) { s with heap := s.heap.push o } → wpAny (Mo c) A (eval e PE) Q NoE s) (ho : o.isFreed = false := by rfl) (hst : ∀ v, stored (obs.map fun q => (q.1, Value.ref q.2.1)) a v = (obs.map fun q => (q.1, Value.ref q.2.1)) ++ [(a, v)] := by intro; kernel_rfl) {Q : Flow → Shared → Prop}
    (hQ : ∀ s' n, Fill c PE G s₀ s' k m vars dx (obs ++ [(a, n, o)]) → Q .next s') : wpAny (Mo c) A (exec (.Assign [.Attribute (.Name (⟨#[115, 101, 108, 102]⟩ : Str) p) a p2] e pos) PE) Q NoE s := by
  have hk : ∀ b ob, s.heap.get? b = some ob → (s.heap.push o).get? b = some ob := fun b ob e => Heap.get?_push_of_some _ e
  have st₂ := F.st.keepS s.toks hk
  have nd : s.heap.objs.size ≠ dx := by
    obtain ⟨o', _, _, e', _⟩ := F.dd
    exact Ne.symm (fresh_ne e')
  refine plainObj_wpAny_Assign_Attribute (hev _ (st₂.fr.load hl hsf ?_)) (swaps_attr _ _ _ _ _)
  refine setAttr_own (s := { s with heap := s.heap.push o }) st₂.ok.K (hk _ _ (F.st.ok.sub _ _ gx)) (F.dd.push _) S (by rw [List.length_map]; exact hz) fun h' tk h1 h2 => hQ _ s.heap.objs.size ?_
  have hs : ∀ b ob, b ≠ dx → s.heap.get? b = some ob → h'.get? b = some ob := fun b ob hb e => h2 b ob hb (hk _ _ e)
  obtain ⟨hq, tq, eq⟩ := F.same
  refine ⟨st₂.other tk h2 dG df (fun q => hh (.inl q)) fun z d h1 h3 => hh (.inr ⟨z, d, h1, h3⟩), ?_, fun b ob hb e => hs b ob hb (F.keep b ob hb e), ⟨h', tk, by rw [eq]⟩, fun q hq => ?_, ?_⟩
  · rw [List.map_append]
    exact hst _ ▸ h1
  · rcases List.mem_append.mp hq with hq | hq
    · obtain ⟨n1, n2, n3, n4⟩ := F.new q hq
      exact ⟨n1, n2, hs _ _ n1 n3, n4⟩
    · cases List.mem_singleton.mp hq
      refine ⟨nd, ?_, h2 _ _ nd (Heap.get?_push_size _ ho), notSysModules F.st.ok⟩
      cases w : s₀.heap.get? s.heap.objs.size with
      | none => rfl
      | some ob => exact nopO <| (fresh_size s.heap).symm.trans (F.keep _ _ nd w)
  · rw [List.map_append, List.nodup_append]
    refine ⟨F.sep, List.pairwise_singleton _ _, fun b hb b' hb' => ?_⟩
    obtain ⟨q, hq, rfl⟩ := List.mem_map.mp hb
    cases List.mem_singleton.mp hb'
    exact fresh_ne (F.new q hq).2.2.1
theorem ev_dict0 {pos : Pos} (Q : Value → Shared → Prop) (h : Q (.ref s.heap.objs.size) { s with heap := s.heap.push emptyDict }) : wpAny (Mo c) A (eval (.Dict [] [] pos) PE) Q NoE s := wpAny_Dict_empty h
theorem ev_list0 {pos : Pos} (Q : Value → Shared → Prop) (h : Q (.ref s.heap.objs.size) { s with heap := s.heap.push (lstO [] 0) }) : wpAny (Mo c) A (eval (.List [] pos) PE) Q NoE s :=
  wpAny_List (wpAny_items_nil ⟨Nat.zero_le _, h⟩)
end
end Mine

-- G26
namespace Mine

section
variable {c : Cx} {PE : Env} {G GC GD G' G₁ G₂ : Heap} {s s' s₀ s₁ s₂ : Shared} {k k' k₁ : Nat} {m : Str → Option Value} {vars vars' v1 v2 : Vars} {κ : Nat} {A : Around} {cl : Cl} {C x dx d0 l0 l1 : Addr} {es : List DictEntry} {en : Nat} {y z : Str} {d : D} {a : Addr} {sets : Str → Bool} {pI pT : Str} {items items' : D} {e l : List (Str × D)} {ss : List D} {scI : Scope}
theorem loc_ne {sc : Kinds} (h : isLoc sc y = true) (hz : sc.lookup z = none) : y ≠ z := fun e => by
  subst e
  exact (isLoc_or h).elim (fun q => nomatch hz.symm.trans q) fun q => nomatch hz.symm.trans q
theorem lk_skip {α : Type} {x y : Str} {v : α} {r : List (Str × α)} (h : x ≠ y) : List.lookup y ((x, v) :: r) = r.lookup y := by rw [List.lookup_cons, beq_false_of_ne (Ne.symm h)]
theorem nES : (⟨#[37, 101]⟩ : Str) ≠ (⟨#[37, 115]⟩ : Str) ∧ (⟨#[115, 101, 108, 102]⟩ : Str) ≠ (⟨#[37, 101]⟩ : Str) ∧ (⟨#[115, 101, 108, 102]⟩ : Str) ≠ (⟨#[37, 115]⟩ : Str) ∧ (⟨#[115, 101, 108, 102]⟩ : Str) ≠ (⟨#[37, 100]⟩ : Str) := by decide +kernel
/-- the three first objects of Signatures -/
noncomputable abbrev ob3 (d0 l0 l1 : Addr) : List (Str × Addr × Obj) := [((⟨#[101, 110, 116, 114, 105, 101, 115]⟩ : Str), d0, emptyDict), ((⟨#[115, 116, 97, 110, 100, 115]⟩ : Str), l0, lstO [] 0), ((⟨#[111, 112, 101, 110, 101, 100]⟩ : Str), l1, lstO [] 0)]
noncomputable abbrev kv3 (d0 l0 l1 : Addr) : List (Str × Value) := [((⟨#[101, 110, 116, 114, 105, 101, 115]⟩ : Str), .ref d0), ((⟨#[115, 116, 97, 110, 100, 115]⟩ : Str), .ref l0), ((⟨#[111, 112, 101, 110, 101, 100]⟩ : Str), .ref l1)]
noncomputable abbrev varsB (pI : Str) (items : D) : Vars := [(pI, false, items), ((⟨#[37, 101]⟩ : Str), true, D.dct []), ((⟨#[37, 115]⟩ : Str), true, D.lst [])]
noncomputable abbrev varsE (pI : Str) (items : D) (e : List (Str × D)) (ss : List D) : Vars := [(pI, false, items), ((⟨#[37, 100]⟩ : Str), true, D.dct [((⟨#[101, 110, 116, 114, 105, 101, 115]⟩ : Str), .dct e), ((⟨#[115, 116, 97, 110, 100, 115]⟩ : Str), .lst ss), ((⟨#[111, 112, 101, 110, 101, 100]⟩ : Str), .lst [])])]
/-- where the entries begin to be filled -/
structure SgO (c : Cx) (PE : Env) (G : Heap) (s : Shared) (k : Nat) (x dx C d0 l0 l1 : Addr) (m : Str → Option Value) (pI : Str) (items : D) (GB : Heap) (es : List DictEntry) (en : Nat) : Prop where
  le : Sub G GB
  st : Sj (JT x dx C d0 l0 es en) c PE GB s k (upd (⟨#[37, 115]⟩ : Str) (.ref l0) (upd (⟨#[37, 101]⟩ : Str) (.ref d0) m)) (varsB pI items)
  eo : EsOk es d0 l0
  hl : GB.get? l1 = some (lstO [] 0)
  new : ∀ b ob, GB.get? b = some ob → b = dx ∨ b = l1 ∨ G.get? b = some ob
  dd : ∀ h : Heap, h.get? dx = some (dictOf es en) → h.DictOf (PySem.strKind c.prog c.w) dx (kv3 d0 l0 l1)
theorem sig_open {v : Value} (o₁ : Ok c G s₁ k) (F : Fill c PE G s₁ s k m (fzV [(pI, items)]) dx (ob3 d0 l0 l1)) (gx : G.get? x = some (instObj C dx)) (df : dx ≠ c.fa) (nF : ¬ FHot PE dx) (nN : ∀ b, s₁.heap.get? b = none → ¬ FHot PE b)
    (hE : PE.kindOf (⟨#[37, 101]⟩ : Str) = none) (hS : PE.kindOf (⟨#[37, 115]⟩ : Str) = none) (hpe : pI ≠ (⟨#[37, 101]⟩ : Str)) (hps : pI ≠ (⟨#[37, 115]⟩ : Str)) (msf : m (⟨#[115, 101, 108, 102]⟩ : Str) = some (.ref x)) (mpi : m pI = some v) (iv : Is c G v items) : ∃ GB es en, SgO c PE G s k x dx C d0 l0 l1 m pI items GB es en := by
  obtain ⟨es, en, hdx, hdd, hg⟩ := dict_obj F.dd
  obtain ⟨a1, a2, a3, a4⟩ := F.new _ (.head _)
  obtain ⟨b1, b2, b3, _⟩ := F.new _ (.tail _ (.head _))
  obtain ⟨c1, c2, c3, _⟩ := F.new _ (.tail _ (.tail _ (.head _)))
  have hsep := F.sep
  have ne0 : d0 ≠ l0 := fun q => (List.nodup_cons.mp hsep).1 (q ▸ .head _)
  have ne1 : d0 ≠ l1 := fun q => (List.nodup_cons.mp hsep).1 (q ▸ .tail _ (.head _))
  have ne2 : l0 ≠ l1 := fun q => (List.nodup_cons.mp (List.nodup_cons.mp hsep).2).1 (q ▸ .head _)
  obtain ⟨GB, g1, g2, g3, g4⟩ := exists_frzP F.st.ok.sub fun a => a = dx ∨ a = l1
  have gn : ∀ b, s₁.heap.get? b = none → G.get? b = none := fun b e => by
    cases q : G.get? b with
    | none => rfl
    | some ob => exact nopO <| (o₁.sub _ _ q).symm.trans e
  have nfa : ∀ b, s₁.heap.get? b = none → b ≠ c.fa := fun b e q => o₁.falive (q ▸ e)
  have nB : ∀ b, b ≠ dx → b ≠ l1 → G.get? b = none → GB.get? b = none := fun b h1 h2 e => by
    cases q : GB.get? b with
    | none => rfl
    | some ob => exact (g4 b ob q).elim (fun q => q.elim (fun q => absurd q h1) fun q => absurd q h2) fun q => nopO <| e.symm.trans q
  have oB : Ok c GB s k := ⟨g2, o₁.base.mono g1, nB _ (Ne.symm df) (Ne.symm (nfa _ c2)) o₁.nofa, F.st.ok.feed⟩
  have w0 : Own c GB s.heap (.ref d0) (.dct []) := .dct (kvs := []) (nB _ a1 ne1 (gn _ a2)) (nfa _ a2) a4 ⟨_, #[], 0, a3, ⟨rfl, rfl, rfl⟩, rfl, (fun e he => nomatch he), .nil, List.nodup_nil⟩ .nil
  have w1 : Own c GB s.heap (.ref l0) (.lst []) := .lst (vs := []) (nB _ b1 ne2 (gn _ b2)) (nfa _ b2) b3 .nil
  have x0 := F.st.one oB (fun a h => nB a (fun q => nF (q ▸ h)) (fun q => nN _ c2 (q ▸ h)) (F.st.hotG a h).1) mpi (iv.mono g1)
  have x1 := x0.add hE (lk_skip hpe) w0 (nN _ a2) fun z dz h => nomatch (lk1 h).2
  have x2 := x1.add hS ((lk_skip hps).trans (lk_skip nES.1)) w1 (nN _ b2) fun z dz h => (app1 h).elim (fun h => nomatch (lk1 h).2) fun ⟨q, _⟩ => by
    subst q
    rw [upd_eq]
    exact fun e => ne0 (Value.ref.inj (Option.some.inj e))
  exact ⟨GB, es, en, g1, ⟨x2, g1 _ _ gx, g3 _ _ (.inl rfl) hdx, (upd_ne nES.2.2.1).trans ((upd_ne nES.2.1).trans msf), (upd_ne nES.1).trans upd_eq, upd_eq⟩, ⟨hg _, hg _, hg _⟩, g3 _ _ (.inr rfl) c3, fun b ob e => (g4 b ob e).elim (fun q => q.elim .inl fun q => .inr (.inl q)) fun q => .inr (.inr q), hdd⟩
/-- the entries are filled: the object's dict is taken up again -/
theorem sig_mid (b0 : Base c G) (dG : G.get? dx = none) (le : Sub G GC) (st : Sj (JT x dx C d0 l0 es en) c PE GC s k m v1) (hl1 : GC.get? l1 = some (lstO [] 0)) (hdd : ∀ h : Heap, h.get? dx = some (dictOf es en) → h.DictOf (PySem.strKind c.prog c.w) dx (kv3 d0 l0 l1))
    (hsys : (dx == sysModules) = false) (df : dx ≠ c.fa) (nF : ¬ FHot PE dx) (xd : x ≠ dx) (nd : d0 ≠ dx) (hD : PE.kindOf (⟨#[37, 100]⟩ : Str) = none) (hpd : pI ≠ (⟨#[37, 100]⟩ : Str)) (w1 : v1.lookup (⟨#[37, 101]⟩ : Str) = some (true, .dct e)) (w2 : v1.lookup (⟨#[37, 115]⟩ : Str) = some (true, .lst ss)) (w3 : v1.lookup pI = some (false, items')) (n1 : e.all (fun p => noDct 6 p.2) = true) (n2 : ss.all (noDct 6) = true) (n3 : noDct 6 items' = true) :
    ∃ GD, Go c PE GC GD s s m m v1 (freezeAll v1) ∧ Sub G (GD.hide dx) ∧ Sj (JS x dx C) c PE (GD.hide dx) s k (upd (⟨#[37, 100]⟩ : Str) (.ref dx) m) (varsE pI items' e ss) := by
  obtain ⟨GD, x, t⟩ := st.st.freeze_all
  have frz : ∀ {z : Str} {oo : Bool} {d : D} {u : Value}, v1.lookup z = some (oo, d) → m z = some u → Is c GD u d := fun {z oo d u} hz hu => by
    obtain ⟨u', h1, h2⟩ := x.val z false d (by rw [freezeAll_by, freezeBy_lookup, hz]; exact congrArg (fun b => some (b, d)) (Bool.and_false oo))
    cases hu.symm.trans h1
    exact h2
  have gd := t.step.le _ _ st.j.gd
  have hc : ∀ ob, GD.get? dx = some ob → ob.cls = .type "dict" := fun ob q => by
    cases gd.symm.trans q
    rfl
  have sE : Sub G (GD.hide dx) := fun b ob q => (Heap.hide_ne GD fun w => (by subst w; exact nopO <| dG.symm.trans q)).trans (t.step.le _ _ (le _ _ q))
  have i0 : Is c (GD.hide dx) (.ref d0) (.dct e) := by
    cases frz w1 st.j.e with
    | dct k0 k1 k2 k3 =>
      obtain ⟨o', es', ep, q, r⟩ := k1
      refine .dct k0 ⟨o', es', ep, (Heap.hide_ne GD nd).trans q, r⟩ k2 fun i u d q1 q2 => (k3 i u d q1 q2).hide (n := 6) ?_ hc
      obtain ⟨p, q3, rfl⟩ := List.mem_map.mp (List.mem_of_getElem? q2)
      exact List.all_eq_true.mp n1 p q3
  have i1 := (frz w2 st.j.s).hide (n := 7) n2 hc
  have i2 : Is c (GD.hide dx) (.ref l1) (.lst []) := (Is.lst (c := c) (n := 0) (vs := []) (ds := []) (t.step.le _ _ hl1) rfl fun i v d h => nopO <| h).hide (n := 7) rfl hc
  obtain ⟨u, hu, _⟩ := st.st.val _ _ _ w3
  have nfa : (GD.hide dx).get? c.fa = none := by
    cases q : (GD.hide dx).get? c.fa with
    | none => rfl
    | some ob => exact nopO <| x.ok.nofa.symm.trans (hide_some q).2
  have oE : Ok c (GD.hide dx) s k := ⟨fun b ob q => x.ok.sub _ _ (hide_some q).2, b0.mono sE, nfa, x.ok.feed⟩
  have x0 := x.one oE (fun a h => by
    cases q : (GD.hide dx).get? a with
    | none => rfl
    | some ob => exact nopO <| (x.hotG a h).1.symm.trans (hide_some q).2) hu ((frz w3 hu).hide n3 hc)
  have x1 := x0.add hD (lk_skip hpd) (.dct (Heap.hide_self _ _) df hsys (hdd _ (x.ok.sub _ _ gd)) (IsKV.cons i0 (.cons i1 (.cons i2 .nil)))) nF fun z dz h => nomatch (lk1 h).2
  exact ⟨GD, t, sE, x1, (Heap.hide_ne GD xd).trans (t.step.le _ _ st.j.gx), (upd_ne nES.2.2.2).trans st.j.sf, upd_eq⟩
theorem sig_run {fI : Addr} {q1 q2 q3 q4 q5 q6 q7 q8 q9 q10 q11 q12 : Pos} {st4 : Stmt} {rest : List Stmt}
    (FI : FnK c fI [(⟨#[115, 101, 108, 102]⟩ : Str), pI] (.Assign [.Attribute (.Name (⟨#[115, 101, 108, 102]⟩ : Str) q1) (⟨#[101, 110, 116, 114, 105, 101, 115]⟩ : Str) q2] (.Dict [] [] q3) q4 :: .Assign [.Attribute (.Name (⟨#[115, 101, 108, 102]⟩ : Str) q5) (⟨#[115, 116, 97, 110, 100, 115]⟩ : Str) q6] (.List [] q7) q8 :: .Assign [.Attribute (.Name (⟨#[115, 101, 108, 102]⟩ : Str) q9) (⟨#[111, 112, 101, 110, 101, 100]⟩ : Str) q10] (.List [] q11) q12 :: st4 :: rest) scI)
    (hie : scI.names.lookup (⟨#[37, 101]⟩ : Str) = none) (his : scI.names.lookup (⟨#[37, 115]⟩ : Str) = none) (hid : scI.names.lookup (⟨#[37, 100]⟩ : Str) = none) (hl : isLoc scI.names (⟨#[115, 101, 108, 102]⟩ : Str) = true) (S1 : SetOk c.K C (⟨#[101, 110, 116, 114, 105, 101, 115]⟩ : Str)) (S2 : SetOk c.K C (⟨#[115, 116, 97, 110, 100, 115]⟩ : Str)) (S3 : SetOk c.K C (⟨#[111, 112, 101, 110, 101, 100]⟩ : Str))
    (R1 : ∀ x dx d0 l0 es en PE, PE.scope = scI → CInj PE → EsOk es d0 l0 → StP (JT x dx C d0 l0 es en) c (κ + 1) PE st4 (varsB pI items) k (.nxt, v1, k₁))
    (w1 : v1.lookup (⟨#[37, 101]⟩ : Str) = some (true, .dct e)) (w2 : v1.lookup (⟨#[37, 115]⟩ : Str) = some (true, .lst ss)) (w3 : v1.lookup pI = some (false, items')) (n1 : e.all (fun p => noDct 6 p.2) = true) (n2 : ss.all (noDct 6) = true) (n3 : noDct 6 items' = true)
    (R2 : ∀ x dx PE, PE.scope = scI → CInj PE → BkP (JS x dx C) c (κ + 1) PE rest (varsE pI items' e ss) k₁ (.nxt, v2, k')) (w4 : v2.lookup (⟨#[37, 100]⟩ : Str) = some (true, .dct l)) :
    ∀ A G s x dx vs, AOk (κ + 2) A → Ok c G s k → G.get? x = some (instObj C dx) → Own c G s.heap (.ref dx) (.dct []) → IsL c G vs [items] → codeAny (Mo c) A (.call (.ref fI) ⟨.ref x :: vs, []⟩) (fun r s' => match r with | .ok (.ret v) => Made c G s dx k' l v s' | _ => False) s := by
  intro A G s x dx vs hA o gx hown hI
  obtain ⟨v, vs, rfl, iv, hI⟩ := hI.cons_inv
  cases hI.nil_inv
  cases hown with
  | @dct _ kvs0 _ dG df dS dO dK =>
  cases dK.nil_inv
  have dlive : s.heap.get? dx ≠ none := by
    obtain ⟨o', es, ep, e', _⟩ := dO
    exact fun q => nopO <| e'.symm.trans q
  refine enterC FI hA o rfl (fz := [(pI, items)]) (fun z dz hz => ?_) (ow := []) (mo := fun _ => none) .nil fun PE s₁ m₁ hsc E hA' => ?_
  · obtain ⟨rfl, rfl⟩ := lk1 hz
    exact ⟨v, .tail _ (.head _), iv⟩
  have st₁ := E.st
  rw [List.append_nil] at st₁
  have nk : ∀ {y : Str}, scI.names.lookup y = none → PE.kindOf y = none := fun h => (congrArg (fun sc : Scope => sc.names.lookup _) hsc).trans h
  have hl' : isLoc PE.scope.names (⟨#[115, 101, 108, 102]⟩ : Str) = true := (congrArg (fun sc : Scope => isLoc sc.names _) hsc).trans hl
  have lp := FI.loc pI (.tail _ (.head _))
  have msf := E.mp _ _ (.head _)
  have nF : ¬ FHot PE dx := fun q => dlive (E.hot _ q)
  have nH : ¬ HotS PE m₁ (fzV [(pI, items)]) dx := fun q => q.elim nF fun ⟨z, d, h, _⟩ => nomatch (lk1 h).2
  have nS : ∀ b, s₁.heap.get? b = none → s.heap.get? b = none := fun b e => by
    cases q : s.heap.get? b with
    | none => rfl
    | some ob => exact nopO <| (E.keep _ _ q).symm.trans e
  have F0 : Fill c PE G s₁ s₁ k m₁ (fzV [(pI, items)]) dx [] := ⟨st₁, dO.keep E.keep, fun _ _ _ e => e, ⟨_, _, rfl⟩, fun q h => absurd h List.not_mem_nil, .nil⟩
  refine wpAny_execs_cons (F0.next gx dG df nH S1 msf hl' (Nat.zero_le _) (fun Q => ev_dict0 Q) (hQ := fun s₂ d0 F1 => ?_))
  refine wpAny_execs_cons (F1.next gx dG df nH S2 msf hl' (Nat.le_of_ble_eq_true rfl) (fun Q => ev_list0 Q) (hQ := fun s₃ l0 F2 => ?_))
  refine wpAny_execs_cons (F2.next gx dG df nH S3 msf hl' (Nat.le_of_ble_eq_true rfl) (fun Q => ev_list0 Q) (hQ := fun s₄ l1 F3 => ?_))
  clear F0 F1 F2
  have F3 : Fill c PE G s₁ s₄ k m₁ (fzV [(pI, items)]) dx (ob3 d0 l0 l1) := F3
  obtain ⟨a1, a2, _⟩ := F3.new _ (.head _)
  obtain ⟨_, b2, _⟩ := F3.new _ (.tail _ (.head _))
  obtain ⟨_, c2, _⟩ := F3.new _ (.tail _ (.tail _ (.head _)))
  obtain ⟨GB, es, en, X⟩ := sig_open st₁.ok F3 gx df nF (fun b e q => st₁.fr.live q e) (nk hie) (nk his) (loc_ne lp hie) (loc_ne lp his) msf (E.mp _ _ (.tail _ (.head _))) iv
  have T1 : Step c G GB s s₄ (fun b => b = dx) := by
    obtain ⟨h₁, t₁, rfl⟩ := E.same
    obtain ⟨h₄, t₄, rfl⟩ := F3.same
    have kp : ∀ a ob, a ≠ dx → s.heap.get? a = some ob → h₄.get? a = some ob := fun a ob h e => F3.keep a ob h (E.keep a ob e)
    exact ⟨X.le, fun a ob q => (X.new a ob q).elim (fun q => .inr (.inr q)) fun q => q.elim (fun q => .inr (.inl (q ▸ nS _ c2))) .inl, fun a ob _ h2 e => kp a ob h2 e, fun a e => by
      by_cases q : a = dx
      · subst q
        exact fun q => nopO <| (X.st.st.ok.sub _ _ X.st.j.gd).symm.trans q
      · obtain ⟨ob, z⟩ := Option.ne_none_iff_exists'.mp e
        exact fun w => (nopO <| (kp a ob q z).symm.trans w), rfl, rfl, rfl⟩
  refine wpAny_execs_cons (wseq (R1 x dx d0 l0 es en PE hsc E.ci X.eo _ GB s₄ _ hA' X.st) fun f s₅ p => ?_)
  obtain ⟨GC, mC, stC, tC, iC⟩ := p
  cases iC
  obtain ⟨GD, tD, sE, stE⟩ := sig_mid o.base dG (X.le.trans tC.step.le) stC (tC.step.le _ _ X.hl) X.dd dS df nF (fun q => nopO <| (q ▸ gx).symm.trans dG) a1 (nk hid) (loc_ne lp hid) w1 w2 w3 n1 n2 n3
  refine wseq (R2 x dx PE hsc E.ci _ _ s₅ _ hA' stE) fun f s₆ p => ?_
  obtain ⟨GF, mF, stF, tF, iF⟩ := p
  cases iF
  have T2 := T1.comp (tC.trans tD).step fun z hz => hz.elim (fun q => .inl (E.hot z q)) fun ⟨y, d, g1, g2⟩ => by
    rcases lk_cons g1 with ⟨_, q⟩ | ⟨_, g1⟩
    · exact nomatch q
    · rcases lk2 g1 with ⟨rfl, _⟩ | ⟨rfl, _⟩
      · rw [upd_ne nES.1, upd_eq] at g2
        cases g2
        exact .inl (nS _ a2)
      · rw [upd_eq] at g2
        cases g2
        exact .inl (nS _ b2)
  have T3 : Step c G (GD.hide dx) s s₅ (fun b => b = dx) := ⟨sE, fun a ob q => T2.new a ob (hide_some q).2, T2.keep, T2.live, T2.gens, T2.drawn, T2.os⟩
  have T4 := T3.comp tF.step fun z hz => hz.elim (fun q => .inl (E.hot z q)) fun ⟨y, d, g1, g2⟩ => by
    rcases lk2 g1 with ⟨_, q⟩ | ⟨rfl, _⟩
    · exact nomatch q
    · rw [upd_eq] at g2
      cases g2
      exact .inr rfl
  exact ⟨rfl, GF, stF.st.ok, T4, stF.st.ownAt w4 stF.j.2.2⟩
theorem Yl.dctV {o : Option (Bool × D)} : Yl cl (dctV o) fun l => o = some (true, .dct l) := by
  cases o with
  | none => exact .fail
  | some q =>
    obtain ⟨b, d⟩ := q
    cases b <;> cases d
    case true.dct l => exact .ret rfl
    all_goals exact .fail
theorem Yl.lstV {o : Option (Bool × D)} : Yl cl (lstV o) fun l => o = some (true, .lst l) := by
  cases o with
  | none => exact .fail
  | some q =>
    obtain ⟨b, d⟩ := q
    cases b <;> cases d
    case true.lst l => exact .ret rfl
    all_goals exact .fail
theorem Yl.frzV {o : Option (Bool × D)} : Yl cl (frzV o) fun d => o = some (false, d) := by
  cases o with
  | none => exact .fail
  | some q =>
    obtain ⟨b, d⟩ := q
    cases b
    · exact .ret rfl
    · exact .fail
theorem sig_snd (T : TbOk c) (H : GoodCl c κ cl) (hsets : ∀ a, sets a = true → SetOk c.K C a) {key : Str} {fI : Addr} {bodyT bodyI : List Stmt} {scT : Scope} (hkey : c.tb.meth C (⟨#[116, 97, 107, 101, 95, 115, 105, 103]⟩ : Str) = some key) (FT : FnK c (c.at_ key) [(⟨#[115, 101, 108, 102]⟩ : Str), pT] bodyT scT) (FI : FnK c fI [(⟨#[115, 101, 108, 102]⟩ : Str), pI] bodyI scI)
    (hne : scT.names.lookup (⟨#[37, 101]⟩ : Str) = none) (hns : scT.names.lookup (⟨#[37, 115]⟩ : Str) = none) (hie : scI.names.lookup (⟨#[37, 101]⟩ : Str) = none) (his : scI.names.lookup (⟨#[37, 115]⟩ : Str) = none) (hid : scI.names.lookup (⟨#[37, 100]⟩ : Str) = none) (w : SI bodyI) : Yl cl (sigInit c.tb C sets scI.names scT.names pI pT bodyT items k w) fun r =>
    ∀ A G s x dx vs, AOk (κ + 2) A → Ok c G s k → G.get? x = some (instObj C dx) → Own c G s.heap (.ref dx) (.dct []) → IsL c G vs [items] → codeAny (Mo c) A (.call (.ref fI) ⟨.ref x :: vs, []⟩) (fun r' s' => match r' with | .ok (.ret v) => Made c G s dx r.2 r.1 v s' | _ => False) s := by
  cases w with
  | bad => exact .fail
  | mk =>
    exact .gd fun hc => .ask fun n0 => .bind .run fun r hr => .bind .nxtM fun _ hf => .bind .dctV fun e w1 => .bind .lstV fun ss w2 => .bind .frzV fun items' w3 => .ask fun n1 => .ask fun n2 => .ask fun n3 => .bind .run fun r₂ hr₂ => .bind .nxtM fun _ hf₂ => .bind .dctV fun l w4 => .ret (by
      obtain ⟨hc, z2, z3⟩ := and3 hc
      obtain ⟨hc, y3, z1⟩ := and3 hc
      obtain ⟨hc, y1, y2⟩ := and3 hc
      obtain ⟨h1, h2, h3⟩ := and3 hc
      obtain ⟨rfl, hl⟩ := isSelf_of h1
      obtain ⟨rfl, _⟩ := isSelf_of h2
      obtain ⟨rfl, _⟩ := isSelf_of h3
      cases eq_of_beq y1
      cases eq_of_beq y2
      cases eq_of_beq y3
      obtain ⟨fl, v1, k₁⟩ := r
      obtain ⟨fl₂, v2, k₂⟩ := r₂
      cases hf
      cases hf₂
      refine sig_run (k₁ := k₁) FI hie his hid hl (hsets _ z1) (hsets _ z2) (hsets _ z3) (fun x dx d0 l0 es en PE hs hi hes => ?_) w1 w2 w3 n1 n2 n3 (fun x dx PE hs hi => ?_) w4
      · subst hs
        exact evK_snd T H.le hi hes (tk_snd T H hes hkey FT hne hns) 20 _ _ _ _ hr
      · subst hs
        exact evSs_snd (evM_snd T H.le hi hsets 20) _ _ _ _ hr₂)
end
end Mine

-- G27
namespace Mine

section
variable {c : Cx} {PE : Env} {G G' : Heap} {s s' s₁ : Shared} {k k' k₁ k₂ : Nat} {m : Str → Option Value} {vars vars' v2 v3 : Vars} {κ : Nat} {A : Around} {cl : Cl} {C x dx fO fN : Addr} {sets : Str → Bool} {pO pN : List Str} {args ds : List D} {l l₁ : List (Str × D)} {bodyO bodyN : List Stmt} {scO scN : Scope} {d : D} {y z : Str}
/-- the def of a class's own __init__ that names super -/
structure SupK (c : Cx) (C fO fN : Addr) (pO : List Str) (bodyO : List Stmt) (scO : Scope) : Prop where
  ob : ∃ oc od osl fd cc cda cl' cld csl ccl cdd ccs vs file tf ar, c.K.lookup fO = some ⟨oc, od, .func fd, osl⟩ ∧ codeIn c.K fd.code fd.qualname = true ∧ fd.body = .stmts bodyO ∧ fd.closure = [(("__class__" : Str), cc)] ∧ fd.scope = scO ∧ fd.globals = mainGlobals ∧ fd.builtins = builtinsNs ∧
    (∀ vs, vs.length = pO.length + 1 → bindArgs fd ⟨vs, []⟩ = pure (((⟨#[115, 101, 108, 102]⟩ : Str) :: pO).zip vs)) ∧ c.K.lookup cc = some ⟨cl', cld, .cell (some (.ref C)), csl⟩ ∧ fd.code = .ref cda ∧ c.K.lookup cda = some ⟨ccl, cdd, .fields vs, ccs⟩ ∧ vs[2]? = some (.str file tf) ∧ ((c.prog.main.file : Str) == file) = true ∧
    (fd.params.posonlyargs ++ fd.params.args).head? = some ar ∧ ar.arg = (⟨#[115, 101, 108, 102]⟩ : Str)
  nd : ((⟨#[115, 101, 108, 102]⟩ : Str) :: pO).Nodup
  loc : ∀ x ∈ ((⟨#[115, 101, 108, 102]⟩ : Str) :: pO), isLoc scO.names x = true
  nocell : ∀ x ∈ scO.names, x.2 ≠ .cell
  co : scO.isCoroutine = false
  gen : scO.isGenerator = false
  kind : scO.kind = .function
  cls : (clsIn c.K C).isSome = true
  sub : mroIn c.K C (.ref C) = some true
  sup : ks_superIn c.K C C ("__init__" : Str) = some (some (.ref fN))
  typ : typeIn c.K (.ref fN) = some (.type "function")
  fn : fnIn c.K fN = true
  mgs : c.mg ("super" : Str) = none
  mbs : c.mb ("super" : Str) = some (.type "super")
  top : (c.prog.main.scope.names.lookup ("super" : Str)).isSome = false
  opq : nsIn c.K cStatics "thirdparty.any" = some none
theorem s_sup : (⟨#[115, 117, 112, 101, 114]⟩ : Str) = ("super" : Str) ∧ (⟨#[95, 95, 105, 110, 105, 116, 95, 95]⟩ : Str) = ("__init__" : Str) ∧ (⟨#[95, 95, 99, 108, 97, 115, 115, 95, 95]⟩ : Str) = ("__class__" : Str) := by decide +kernel
/-- a method's names, its own dict among them -/
noncomputable abbrev vO (ps : List Str) (ds : List D) (l : List (Str × D)) : Vars := fzV (ps.zip ds) ++ [((⟨#[37, 100]⟩ : Str), true, .dct l)]
theorem fz_inv {fz : List (Str × D)} {oo : Bool} (h : (fzV fz).lookup z = some (oo, d)) : oo = false ∧ fz.lookup z = some d := by
  rw [lookFz] at h
  obtain ⟨e, h1, h2⟩ := Option.map_eq_some_iff.mp h
  cases h2
  exact ⟨rfl, h1⟩
theorem zip_none {ps : List Str} {sc : Kinds} (hl : ∀ x ∈ ps, isLoc sc x = true) (hd : sc.lookup y = none) : (fzV (ps.zip ds)).lookup y = none := by
  cases h : (fzV (ps.zip ds)).lookup y with
  | none => rfl
  | some q => exact absurd rfl (loc_ne (hl _ (List.of_mem_zip (mem_of_lookup (fz_inv h).2)).1) hd)
theorem vO_d {ps : List Str} {sc : Kinds} (hl : ∀ x ∈ ps, isLoc sc x = true) (hd : sc.lookup (⟨#[37, 100]⟩ : Str) = none) (l : List (Str × D)) : (vO ps ds l).lookup (⟨#[37, 100]⟩ : Str) = some (true, .dct l) := by
  rw [lookApp, zip_none hl hd]
  rfl
theorem St.frozen {fz : List (Str × D)} (o : Ok c G s k) (F : Fram PE s.heap m) (hG : ∀ a, FHot PE a → G.get? a = none ∧ a ≠ c.fa) (hv : ∀ z d, fz.lookup z = some d → ∃ v, m z = some v ∧ Is c G v d) : St c PE G s k m (fzV fz) :=
  ⟨o, F, hG, fun z oo d h => by
    obtain ⟨rfl, q⟩ := fz_inv h
    exact hv z d q, fun z _ d _ a e => (nopB <| (fz_inv e).1), fun z d a e => (nopB <| (fz_inv e).1)⟩
theorem rev_lookup : ∀ {b : List (Str × Value)} {x : Str} {v : Value}, (b.map (·.1)).Nodup → (x, v) ∈ b → b.reverse.lookup x = some v := by
  intro b
  induction b with
  | nil => exact fun _ h => nomatch h
  | cons p r ih =>
    intro x v hn hm
    obtain ⟨hp, hn⟩ := List.nodup_cons.mp hn
    rw [List.reverse_cons, lookApp]
    rcases List.mem_cons.mp hm with e | hm
    · subst e
      cases q : r.reverse.lookup x with
      | none => exact List.lookup_cons.trans (by rw [beq_self_eq_true])
      | some u => exact absurd (List.mem_map_of_mem (f := (·.1)) (List.mem_reverse.mp (mem_of_lookup q))) hp
    · rw [ih hn hm]
      rfl
theorem methodCall_at {cd : Code} {E : Value → Shared → Prop} {o : Expr} {name : Str} {apos pos : Pos} {args : List Expr} {Q : Value → Shared → Prop} (hl : sameLine apos pos = true)
    (ha : ((backTo pos (starEach args PE)).any (·.1)) = false) (hz : args.length < 29)
    (h : _root_.PySem.wpAt (Mo c) A cd (attributeBase o name PE (eval o PE)) (fun ov s₁ => ∀ pl, wpAny (Mo c) A (getMethod ov name pl) (fun fx s₂ => wpAny (Mo c) A (callWith pos fx.1 fx.2 (backTo pos (starEach args PE)) []) Q E s₂) E s₁) E s) :
    _root_.PySem.wpAt (Mo c) A cd (eval (.Call (.Attribute o name apos) args [] pos) PE) Q E s := by
  rw [arm_eval_Call]
  refine _root_.PySem.wpAt_bind (ks_wpAt_mono h (fun ov s₁ h₁ => _root_.PySem.wpAt_of_wpAny ?_) fun _ _ e => e)
  refine wpAny_bind (wpAny_standAt ?_)
  have hform : methodCallForm (args.length + ([] : List Keyword).length) (backTo pos (starEach args PE)) (backToKw pos (keywordEach [] PE)) = true := by
    unfold methodCallForm
    have e1 : (backTo pos (starEach args PE)).all (fun x => !x.1) = true := by
      rw [List.all_eq_not_any_not]
      simp only [Bool.not_not, ha]
      rfl
    rw [e1]
    simp only [Bool.true_and, Bool.and_eq_true, decide_eq_true_eq]
    exact ⟨rfl, by rw [show backToKw pos (keywordEach [] PE) = [] from rfl]; simp; omega⟩
  have hpos : methodCallPos true o PE apos pos = pure pos := by
    unfold methodCallPos
    have : (apos.endLine == pos.line) = true := hl
    simp [this]
  unfold methodCall
  rw [hform]
  refine wpAny_bind (wpAny_holding (wpAny_mono (h₁ _) (fun fx s₂ h₂ => ?_) fun _ _ e => e))
  obtain ⟨f, first⟩ := fx
  exact wpAny_bind (wpAny_of_eq hpos h₂)
/-- the class above's __init__, upon one's own self -/
theorem sup_call {vs : List Value} (hA : AOk (κ + 1) A) (FN : FnK c fN ((⟨#[115, 101, 108, 102]⟩ : Str) :: pN) bodyN scN) (hdN : scN.names.lookup (⟨#[37, 100]⟩ : Str) = none) (hlO : ∀ y ∈ pO, isLoc scO.names y = true) (hdO : scO.names.lookup (⟨#[37, 100]⟩ : Str) = none) (st : Sj (JS x dx C) c PE G s k m (vO pO args [])) (i : IsL c G vs ds) (hN : pN.length = ds.length)
    (R : ∀ x dx PE, PE.scope = scN → CInj PE → BkP (JS x dx C) c κ PE bodyN (vO pN ds []) k (.nxt, v2, k')) (w1 : v2.lookup (⟨#[37, 100]⟩ : Str) = some (true, .dct l₁)) {Q : Value → Shared → Prop}
    (hQ : ∀ s' G', Sj (JS x dx C) c PE G' s' k' m (vO pO args l₁) → Go c PE G G' s s' m m (vO pO args []) (vO pO args l₁) → Q .none s') :
    codeAny (Mo c) A (.call (.ref fN) ⟨.ref x :: vs, []⟩) (fun r s' => match r with | .ok (.ret v) => Q v s' | _ => False) s := by
  have L : Lend c G s scN m [((⟨#[37, 100]⟩ : Str), true, D.dct [])] := st.st.lend fun z oo dz hz => by
    obtain ⟨rfl, q⟩ := lk1 hz
    cases q
    exact ⟨rfl, vO_d hlO hdO [], hdN⟩
  refine enterC FN hA st.st.ok (congrArg (· + 1) (i.1.trans hN.symm)) (fz := pN.zip ds) (fun z dz hz => ?_) L fun PE' s₁ m₁ hsc E hA' => ?_
  · obtain ⟨v, g1, g2⟩ := zip_at i hz
    exact ⟨v, .tail _ g1, g2⟩
  · have j₁ : JS x dx C G m₁ := ⟨st.j.1, E.mp _ _ (.head _), (E.mo (⟨#[37, 100]⟩ : Str) true (.dct []) rfl).trans st.j.2.2⟩
    refine wseq (R x dx PE' hsc E.ci _ G s₁ m₁ hA' ⟨E.st, j₁⟩) fun fw s₃ q => ?_
    obtain ⟨G₃, m₃, st₃, t₃, i₃⟩ := q
    cases i₃
    obtain ⟨hh, tk, rfl⟩ := E.same
    obtain ⟨xb, tb⟩ := st.st.back (vars' := vO pO args l₁) E.keep E.hot st₃.st t₃ ⟨rfl, rfl, rfl⟩ (fun a ha => by
      obtain ⟨z, dz, q1, q2⟩ := E.owned L ha
      obtain ⟨rfl, _⟩ := lk1 q1
      exact ⟨_, _, vO_d hlO hdO [], q2⟩) fun z oo dz hz => by
      rcases app1 hz with q | ⟨rfl, rfl, rfl⟩
      · obtain ⟨rfl, q'⟩ := fz_inv q
        exact .inl ⟨rfl, by rw [lookApp, q]; rfl⟩
      · exact .inr ⟨rfl, ⟨_, vO_d hlO hdO []⟩, w1, by rw [st₃.j.2.2, st.j.2.2]⟩
    exact hQ _ _ ⟨xb, JS.jok.mono _ _ _ tb.step.le st.j⟩ tb
/-- what stands for super() : the look above -/
theorem sup_get {cc cda : Addr} {oc cl' ccl : Value} {od cld cdd : Option Addr} {osl csl ccs : Array (Option Value)} {fd : FuncData} {vs : Array Value} {file : Str} {tf : Tok} {ar : Arg} {body : List Stmt} {q1 q2 q3 q4 : Pos} {es : List Expr} {Q : Value → Shared → Prop} (O : SupK c C fO fN pO bodyO scO)
    (o1 : c.K.lookup fO = some ⟨oc, od, .func fd, osl⟩) (o9 : c.K.lookup cc = some ⟨cl', cld, .cell (some (.ref C)), csl⟩) (o11 : c.K.lookup cda = some ⟨ccl, cdd, .fields vs, ccs⟩) (o12 : vs[2]? = some (.str file tf)) (o13 : ((c.prog.main.file : Str) == file) = true)
    (o14 : (fd.params.posonlyargs ++ fd.params.args).head? = some ar) (o15 : ar.arg = (⟨#[115, 101, 108, 102]⟩ : Str)) (hcells : PE.cells = [(("__class__" : Str), cc)]) (hcode : PE.code = .ref cda) (hfunc : PE.func = some fO) (st : Sj (JS x dx C) c PE G s k m vars) (hsl : sameLine q3 q4 = true) (hln : es.length < 29)
    (hst : ((backTo q4 (starEach es PE)).any (·.1)) = false) (hsu : PE.kindOf ("super" : Str) = some .globalImplicit) (hcl : PE.kindOf ("__class__" : Str) = some .free) (hself : PE.kindOf (⟨#[115, 101, 108, 102]⟩ : Str) = some .local) (hdv : vars.lookup (⟨#[37, 100]⟩ : Str) = some (true, .dct l))
    (h : ∀ h' b, (∀ a ob, s.heap.get? a = some ob → h'.get? a = some ob) → s.heap.get? b = none → h'.get? b = some (methodObj (.ref fN) (.ref x)) → wpAny (Mo c) A (callWith q4 (.ref b) [] (backTo q4 (starEach es PE)) []) Q NoE { s with heap := h', toks := s.toks + 1 }) :
    _root_.PySem.wpAt (Mo c) A (.func body PE) (eval (.Call (.Attribute (.Call (.Name ("super" : Str) q1) [] [] q2) ("__init__" : Str) q3) es [] q4) PE) Q NoE s := by
  have X₁ : c.K.In s.heap := st.st.ok.K
  obtain ⟨cd, hcd⟩ := Option.isSome_iff_exists.mp O.cls
  obtain ⟨oD, hD1, hD2⟩ : ∃ oD, s.heap.get? C = some oD ∧ oD.data = .cls cd := by
    unfold clsIn at hcd
    split at hcd
    · rename_i c' d' cd' sl ho
      cases hcd
      exact ⟨_, X₁ _ _ ho, rfl⟩
    · cases hcd
  obtain ⟨esd, epd, hdo, _⟩ := own_getL (a := (⟨#[115, 101, 108, 102]⟩ : Str)) (st.st.ownAt hdv st.j.2.2)
  have I₁ : W.InstAt s.heap x (instObj C dx) C (some (dictOf esd epd)) := ⟨st.st.ok.sub _ _ st.j.1, rfl, rfl, hdo⟩
  have hkind := st.st.fr.kind
  refine methodCall_at hsl hst hln (ks_wpAt_super_base (env := PE) hsu hcl (by decide +kernel) hfunc (X₁ _ _ o1) rfl o14 hcode (X₁ _ _ o11) rfl o12 o13 O.top ?_)
  refine ks_loadName_global hkind hsu (loadGlobal_builtin (by rw [st.st.fr.glob]; exact st.st.ok.base.g.keeps st.st.ok.sub) O.mgs (by rw [st.st.fr.bl]; exact st.st.ok.base.b.keeps st.st.ok.sub) O.mbs ⟨rfl, ?_⟩)
  refine wpAny_loadName_free hkind hcl (by rw [hcells]; rfl) ⟨_, X₁ _ _ o9, rfl⟩ ?_
  obtain ⟨ml, hml, hmle⟩ := st.st.fr.loc
  refine wpAny_loadName_local hkind (by rw [o15]; exact hself) hml (by rw [o15, hmle _ (by decide +kernel) hself]; exact st.j.2.1) ?_
  obtain ⟨hh, g, dr, t, os⟩ := s
  refine ks_wpAny_isType_cls hD1 hD2 ⟨rfl, ?_⟩
  refine ks_wpAny_call_super hD1 hD2 I₁.at_ I₁.cls (fun c' e' => ?_) (looks_mroIn X₁ O.sub) (fun h₂ e₂ k₂ pl => ?_)
  · have := I₁.no
    unfold notCls at this
    rw [e'] at this
    exact Bool.noConfusion this
  have X₂ : c.K.In h₂ := X₁.keeps k₂
  obtain ⟨of, hof, hofc⟩ : ∃ of, h₂.get? fN = some of ∧ of.cls = .type "function" := by
    have ht' : (c.K.lookup fN).map (·.cls) = some (.type "function") := O.typ
    cases z : c.K.lookup fN with
    | none => rw [z] at ht'; cases ht'
    | some of => rw [z] at ht'; exact ⟨of, X₂ _ _ z, Option.some.inj ht'⟩
  have hsup : alongIn c.K ("__init__" : Str) ((cd.mro.dropWhile (· != .ref C)).drop 1) = some (some (.ref fN)) := by
    have := O.sup
    unfold ks_superIn at this
    rw [hcd] at this
    exact this
  refine ks_wpAny_getMethod_super e₂ (looks_opaque X₂ O.opq) (l₀ := cd.mro) (fun A Q E s k q => wpAny_bind ((looks_clsIn X₂ hcd) A _ E s k (wpAny_pure q))) rfl X₂ hsup hof hofc (ks_ne X₁ I₁ hcd) (by decide +kernel) ?_
  refine h _ h₂.objs.size (fun b ob q => Heap.get?_push_of_some _ (k₂ _ _ q)) ?_ (Heap.get?_push_size _ rfl)
  cases q : hh.get? h₂.objs.size with
  | none => rfl
  | some ob => exact nopO <| (fresh_size h₂).symm.trans (k₂ _ _ q)
/-- super().__init__(..), then the rest -/
theorem sup_body {cc cda : Addr} {oc cl' ccl : Value} {od cld cdd : Option Addr} {osl csl ccs : Array (Option Value)} {fd : FuncData} {vs : Array Value} {file : Str} {tf : Tok} {ar : Arg} {body rest : List Stmt} {q1 q2 q3 q4 q5 : Pos} {e : Expr} {es : List Expr} (O : SupK c C fO fN pO bodyO scO) (hA : AOk (κ + 1) A)
    (o1 : c.K.lookup fO = some ⟨oc, od, .func fd, osl⟩) (o9 : c.K.lookup cc = some ⟨cl', cld, .cell (some (.ref C)), csl⟩) (o11 : c.K.lookup cda = some ⟨ccl, cdd, .fields vs, ccs⟩) (o12 : vs[2]? = some (.str file tf)) (o13 : ((c.prog.main.file : Str) == file) = true)
    (o14 : (fd.params.posonlyargs ++ fd.params.args).head? = some ar) (o15 : ar.arg = (⟨#[115, 101, 108, 102]⟩ : Str)) (hcells : PE.cells = [(("__class__" : Str), cc)]) (hcode : PE.code = .ref cda) (hfunc : PE.func = some fO) (hsl : sameLine q3 q4 = true) (hln : (e :: es).length < 29)
    (hsu : PE.kindOf ("super" : Str) = some .globalImplicit) (hcl : PE.kindOf ("__class__" : Str) = some .free) (hself : PE.kindOf (⟨#[115, 101, 108, 102]⟩ : Str) = some .local)
    (FN : FnK c fN ((⟨#[115, 101, 108, 102]⟩ : Str) :: pN) bodyN scN) (hdN : scN.names.lookup (⟨#[37, 100]⟩ : Str) = none) (hdO : scO.names.lookup (⟨#[37, 100]⟩ : Str) = none) (st : Sj (JS x dx C) c PE G s k m (vO pO args []))
    (R0 : Evs c κ PE (vO pO args []) k (e :: es) (ds, k₁)) (hN : pN.length = ds.length) (R1 : ∀ x dx PE, PE.scope = scN → CInj PE → BkP (JS x dx C) c κ PE bodyN (vO pN ds []) k₁ (.nxt, v2, k₂)) (w1 : v2.lookup (⟨#[37, 100]⟩ : Str) = some (true, .dct l₁))
    (R2 : BkP (JS x dx C) c κ PE rest (vO pO args l₁) k₂ (.nxt, v3, k')) :
    _root_.PySem.wpAt (Mo c) A (.func body PE) (execs (.Expr (.Call (.Attribute (.Call (.Name ("super" : Str) q1) [] [] q2) ("__init__" : Str) q3) (e :: es) [] q4) q5 :: rest) PE) (PostJ (JS x dx C) c PE G s m (vO pO args []) (.nxt, v3, k')) NoE s := by
  have hlO : ∀ y ∈ pO, isLoc scO.names y = true := fun y hy => O.loc y (List.mem_cons_of_mem _ hy)
  refine ks_wpAt_execs_cons (ks_wpAt_Expr_any (sup_get O o1 o9 o11 o12 o13 o14 o15 hcells hcode hfunc st hsl hln (R0.noStar _) hsu hcl hself (vO_d hlO hdO []) fun h' b hk hb ho => ?_) (interactive_false st.st.fr.kind) rfl)
  have x₀ := st.step JS.jok (StepE.of_keep hk) (st.st.ok.keep (tk := s.toks + 1) hk)
  refine wpAny_mono (Q := fun _ s' => _root_.PySem.wpAt (Mo c) A (.func body PE) (execs rest PE) (PostJ (JS x dx C) c PE G s m (vO pO args []) (.nxt, v3, k')) NoE s') ?_ (fun _ s' z => z) fun _ _ e => e
  have main : wpAny (Mo c) A (spliced (backTo q4 (starEach (e :: es) PE))) (fun vs' s₄ => MethP c.K b fN (.ref x) s₄.heap ∧ wpAny (Mo c) A (call (.ref b) ([] ++ vs')) (fun _ s' => _root_.PySem.wpAt (Mo c) A (.func body PE) (execs rest PE) (PostJ (JS x dx C) c PE G s m (vO pO args []) (.nxt, v3, k')) NoE s') NoE s₄) NoE { s with heap := h', toks := s.toks + 1 } :=
    R0.use q4 hA.le x₀.st fun vs' s₄ G₄ o₄ t₄ i₄ => by
      have hb' := t₄.keep _ _ (fun q => st.st.ok.falive (q ▸ hb)) id ho
      refine ⟨⟨hb', o₄.K⟩, wpAny_call (ks_codeAny_call_bound hb' (codeAny_mono (sup_call hA FN hdN hlO hdO (x₀.step JS.jok t₄ o₄) i₄ hN R1 w1 (Q := fun _ s' => _root_.PySem.wpAt (Mo c) A (.func body PE) (execs rest PE) (PostJ (JS x dx C) c PE G s m (vO pO args []) (.nxt, v3, k')) NoE s') fun s₅ G₅ x₅ t₅ => ?_) fun r s' z => ?_))⟩
      · exact _root_.PySem.wpAt_of_wpAny (wseq (R2 A G₅ s₅ m hA.le x₅) fun f s₆ p => p.trans ((Go.ofE ((StepE.of_keep hk).trans t₄)).trans t₅))
      · rcases r with e' | (v | _ | _ | _) <;> first | exact z | exact z.elim
  cases R0 with
  | cons h t =>
    rw [starEach_cons (noStarE h.pl)] at main ⊢
    exact callWith_of (by show ((false || (backTo q4 (starEach es PE)).any (·.1)) || false) = false; rw [t.noStar q4]; rfl) (keeps_M O.fn) (evalArgs_plain main)
theorem sup_run {q1 q2 q3 q4 q5 : Pos} {e : Expr} {es : List Expr} {rest : List Stmt} (O : SupK c C fO fN pO (.Expr (.Call (.Attribute (.Call (.Name ("super" : Str) q1) [] [] q2) ("__init__" : Str) q3) (e :: es) [] q4) q5 :: rest) scO) (FN : FnK c fN ((⟨#[115, 101, 108, 102]⟩ : Str) :: pN) bodyN scN) (hdO : scO.names.lookup (⟨#[37, 100]⟩ : Str) = none) (hdN : scN.names.lookup (⟨#[37, 100]⟩ : Str) = none)
    (hsl : sameLine q3 q4 = true) (hln : (e :: es).length < 29) (hlen : pO.length = args.length) (hsu : scO.names.lookup ("super" : Str) = some .globalImplicit) (hcl : scO.names.lookup ("__class__" : Str) = some .free) (hself : scO.names.lookup (⟨#[115, 101, 108, 102]⟩ : Str) = some .local)
    (R0 : ∀ PE, PE.scope = scO → Evs c κ PE (vO pO args []) k (e :: es) (ds, k₁)) (hN : pN.length = ds.length) (R1 : ∀ x dx PE, PE.scope = scN → CInj PE → BkP (JS x dx C) c κ PE bodyN (vO pN ds []) k₁ (.nxt, v2, k₂)) (w1 : v2.lookup (⟨#[37, 100]⟩ : Str) = some (true, .dct l₁))
    (R2 : ∀ x dx PE, PE.scope = scO → CInj PE → BkP (JS x dx C) c κ PE rest (vO pO args l₁) k₂ (.nxt, v3, k')) (w2 : v3.lookup (⟨#[37, 100]⟩ : Str) = some (true, .dct l)) :
    ∀ A G s x dx vs, AOk (κ + 2) A → Ok c G s k → G.get? x = some (instObj C dx) → Own c G s.heap (.ref dx) (.dct []) → IsL c G vs args → codeAny (Mo c) A (.call (.ref fO) ⟨.ref x :: vs, []⟩) (fun r s' => match r with | .ok (.ret v) => Made c G s dx k' l v s' | _ => False) s := by
  intro A G s x dx vs hA o gx hown hI
  obtain ⟨oc, od, osl, fd, cc, cda, cl', cld, csl, ccl, cdd, ccs, fvs, file, tf, ar, o1, o2, o3, o4, o5, o6, o7, o8, o9, o10, o11, o12, o13, o14, o15⟩ := O.ob
  subst o5
  have hvl : vs.length = pO.length := hI.1.trans hlen.symm
  obtain ⟨a, a1, hdx, _⟩ := hown.live
  cases a1
  have hzl : ((⟨#[115, 101, 108, 102]⟩ : Str) :: pO).length = (.ref x :: vs : List Value).length := congrArg (· + 1) hvl.symm
  have hzn : ((((⟨#[115, 101, 108, 102]⟩ : Str) :: pO).zip (.ref x :: vs)).map (·.1)).Nodup := by rw [zip_keys hzl]; exact O.nd
  have locOf : ∀ z, isLoc fd.scope.names z = true → fd.scope.names.lookup z = some .local := fun z hz => (isLoc_or hz).elim id fun q => absurd rfl (O.nocell _ (mem_of_lookup q))
  refine ks_codeAny_call_defAt (fd := fd) (binds := ((⟨#[115, 101, 108, 102]⟩ : Str) :: pO).zip (.ref x :: vs)) (by have := hA.depth; omega) (o.K _ _ o1) rfl (o.base.nolim.keeps o.sub) (codeRec_of o.K o2) o3 (.of_eq (o8 _ (congrArg (· + 1) hvl))) O.nocell (fun y hy => locOf _ (O.loc _ (by rw [← zip_keys hzl]; exact List.mem_map_of_mem (f := (·.1)) hy))) (fun h₀ hns hk => ?_) O.co O.gen O.kind
  generalize hPE : callEnv fd s.heap.objs.size fO = PE at hns ⊢
  have hsc : PE.scope = fd.scope := by rw [← hPE]; rfl
  have hloc : PE.locals = s.heap.objs.size := by rw [← hPE]; rfl
  have hkof : ∀ z, PE.kindOf z = fd.scope.names.lookup z := fun z => congrArg (fun sc : Scope => sc.names.lookup z) hsc
  have nocell : ∀ z, PE.kindOf z ≠ some .cell := fun z q => O.nocell _ (mem_of_lookup ((hkof z).symm.trans q)) rfl
  have ci : CInj PE := fun z _ _ q => absurd q (nocell z)
  have fr : ∀ b, FHot PE b → s.heap.get? b = none := fun b hb => by
    rcases hb with rfl | ⟨z, q, _⟩
    · rw [hloc]
      exact fresh_size _
    · exact absurd q (nocell z)
  rw [← hloc] at hns
  have F0 : Fram PE h₀ fun z => (((⟨#[115, 101, 108, 102]⟩ : Str) :: pO).zip (.ref x :: vs)).reverse.lookup z := ⟨by rw [hsc]; exact O.kind, by rw [← hPE]; exact o6, by rw [← hPE]; exact o7, ⟨_, hns, fun z _ _ => rfl⟩, fun z q => absurd q (nocell z)⟩
  have hG : ∀ a, FHot PE a → G.get? a = none ∧ a ≠ c.fa := fun a ha => by
    refine ⟨?_, fun q => o.falive (q ▸ fr a ha)⟩
    cases q : G.get? a with
    | none => rfl
    | some ob => exact nopO <| (fr a ha).symm.trans (o.sub _ _ q)
  have x0 := St.frozen (s := { s with heap := h₀, toks := s.toks + (((⟨#[115, 101, 108, 102]⟩ : Str) :: pO).zip (.ref x :: vs)).length }) (fz := pO.zip args) (o.keep hk) F0 hG fun z d hz => by
    obtain ⟨v, g1, g2⟩ := zip_at hI hz
    exact ⟨v, rev_lookup hzn (.tail _ g1), g2⟩
  have x1 := x0.add ((hkof _).trans hdO) (zip_none (fun y hy => O.loc y (List.mem_cons_of_mem _ hy)) hdO) (hown.mono Sub.rfl' (fun _ _ e => e) fun a ob _ _ q => hk a ob q) (fun q => hdx (fr _ q)) fun z dz h => nopB <| (fz_inv h).1
  have j1 : JS x dx C G (upd (⟨#[37, 100]⟩ : Str) (.ref dx) fun z => (((⟨#[115, 101, 108, 102]⟩ : Str) :: pO).zip (.ref x :: vs)).reverse.lookup z) := ⟨gx, (upd_ne nES.2.2.2).trans (rev_lookup hzn (.head _)), upd_eq⟩
  refine ks_wpAt_mono (sup_body O hA.deeper o1 o9 o11 o12 o13 o14 o15 (by rw [← hPE, ← o4]; rfl) (by rw [← hPE, ← o10]; rfl) (by rw [← hPE]; rfl) hsl hln ((hkof _).trans hsu) ((hkof _).trans hcl) ((hkof _).trans hself) FN hdN hdO ⟨x1, j1⟩ (R0 PE hsc) hN R1 w1 (R2 x dx PE hsc ci)) (fun fw s' p => ?_) fun _ _ q => q.elim
  obtain ⟨G', m', st', t', i'⟩ := p
  cases i'
  have S1 : Step c G G s { s with heap := h₀, toks := s.toks + (((⟨#[115, 101, 108, 102]⟩ : Str) :: pO).zip (.ref x :: vs)).length } (fun b => b = dx) := ⟨Sub.rfl', fun _ _ e => .inl e, fun a ob _ _ e => hk a ob e, fun a e => by
    obtain ⟨ob, z⟩ := Option.ne_none_iff_exists'.mp e
    exact fun w => (nopO <| (hk a ob z).symm.trans w), rfl, rfl, rfl⟩
  refine ⟨rfl, G', st'.st.ok, S1.comp t'.step fun z hz => hz.elim (fun q => .inl (fr z q)) fun ⟨y, d, g1, g2⟩ => ?_, st'.st.ownAt w2 st'.j.2.2⟩
  rcases app1 g1 with q | ⟨rfl, _⟩
  · exact nopB <| (fz_inv q).1
  · rw [upd_eq] at g2
    cases g2
    exact .inr rfl
theorem sup_snd (T : TbOk c) (H : GoodCl c κ cl) (hsets : ∀ a, sets a = true → SetOk c.K C a) (O : SupK c C fO fN pO bodyO scO) (FN : FnK c fN ((⟨#[115, 101, 108, 102]⟩ : Str) :: pN) bodyN scN) (hdO : scO.names.lookup (⟨#[37, 100]⟩ : Str) = none) (hdN : scN.names.lookup (⟨#[37, 100]⟩ : Str) = none) (w : SU bodyO) : Yl cl (subInit c.tb C sets scO.names scN.names pO pN bodyN args k w) fun r =>
    ∀ A G s x dx vs, AOk (κ + 2) A → Ok c G s k → G.get? x = some (instObj C dx) → Own c G s.heap (.ref dx) (.dct []) → IsL c G vs args → codeAny (Mo c) A (.call (.ref fO) ⟨.ref x :: vs, []⟩) (fun r' s' => match r' with | .ok (.ret v) => Made c G s dx r.2 r.1 v s' | _ => False) s := by
  cases w with
  | bad => exact .fail
  | mk =>
    exact .gd fun hc => .bind .run fun y hy => .gd fun hN => .bind .run fun r hr => .bind .nxtM fun _ hf => .bind .dctV fun l₁ w1 => .bind .run fun r₃ hr₃ => .bind .nxtM fun _ hf₃ => .bind .dctV fun l w2 => .ret (by
      obtain ⟨hc, h7, h8⟩ := and3 hc
      obtain ⟨hc, h5, h6⟩ := and3 hc
      obtain ⟨hc, h3, h4⟩ := and3 hc
      obtain ⟨h1, h2⟩ := and2 hc
      cases eq_of_beq h1
      cases eq_of_beq h2
      obtain ⟨fl, v2, k₂⟩ := r
      obtain ⟨fl₃, v3, k₃⟩ := r₃
      obtain ⟨ds, k₁⟩ := y
      cases hf
      cases hf₃
      rw [s_sup.1, s_sup.2.1] at O
      refine sup_run (k₁ := k₁) (k₂ := k₂) O FN hdO hdN h3 (dec h4) (dec h5) (by rw [← s_sup.1]; exact eq_of_beq h6) (by rw [← s_sup.2.2]; exact eq_of_beq h7) (eq_of_beq h8) (fun PE hs => ?_) (dec hN) (fun x dx PE hs hi => ?_) w1 (fun x dx PE hs hi => ?_) w2
      · subst hs
        exact (evE_snd T H 40 PE _).l _ k _ hy
      · subst hs
        exact evSs_snd (evM_snd T H hi hsets 20) _ _ _ _ hr
      · subst hs
        exact evSs_snd (evM_snd T H hi hsets 20) _ _ _ _ hr₃)
end
end Mine

-- G28
namespace Mine

variable {c : Cx} {p : Par}
theorem GoodCall.le {κ : Nat} {f : Addr} {ds : List D} {k k' : Nat} {d : D} (h : GoodCall c κ f ds k d k') : GoodCall c (κ + 1) f ds k d k' := fun A G s vs hA => h A G s vs hA.le
/-- what the frozen heap must show of the program's defs and classes -/
structure KOk (c : Cx) (p : Par) : Prop where
  tb : c.tb = tbX p
  T : TbOk c
  fns : ∀ q ∈ fnsX, ∃ scope : Scope, scope.names = q.2.sc ∧ FnK c (c.at_ q.1) q.2.params q.2.body scope
  atS : c.at_ (⟨#[83, 105, 103, 110, 97, 116, 117, 114, 101, 115]⟩ : Str) = p.CS
  atO : c.at_ (⟨#[79, 112, 101, 110, 101, 114]⟩ : Str) = p.CO
  mkS : makesIn c.K p.CS = true
  mkO : makesIn c.K p.CO = true
  inS : ∃ fI scope, findIn c.K (.ref p.CS) "__init__" = some (some (.ref fI)) ∧ typeIn c.K (.ref fI) = some (.type "function") ∧ scope.names = N_Signatures_init.1.sc ∧ FnK c fI [(⟨#[115, 101, 108, 102]⟩ : Str), (⟨#[105, 116, 101, 109, 115]⟩ : Str)] N_Signatures_init.1.body scope
  setS : ∀ a, setS a = true → SetOk c.K p.CS a
  setO : ∀ a, setO a = true → SetOk c.K p.CO a
  inO : ∃ fO fN sO sN, findIn c.K (.ref p.CO) "__init__" = some (some (.ref fO)) ∧ typeIn c.K (.ref fO) = some (.type "function") ∧ sO.names = N_Opener_init.1.sc ∧ sN.names = N_Names_init.1.sc ∧ SupK c p.CO fO fN N_Opener_init.1.params.tail N_Opener_init.1.body sO ∧ FnK c fN ((⟨#[115, 101, 108, 102]⟩ : Str) :: N_Names_init.1.params.tail) N_Names_init.1.body sN
theorem tsM (p : Par) : (tbX p).meth p.CS (⟨#[116, 97, 107, 101, 95, 115, 105, 103]⟩ : Str) = some (⟨#[83, 105, 103, 110, 97, 116, 117, 114, 101, 115, 46, 116, 97, 107, 101, 95, 115, 105, 103]⟩ : Str) := by kernel_rfl
theorem tsFn : fnsX.lookup (⟨#[83, 105, 103, 110, 97, 116, 117, 114, 101, 115, 46, 116, 97, 107, 101, 95, 115, 105, 103]⟩ : Str) = some N_Signatures_take_sig.1 := by kernel_rfl
theorem tsSelf : N_Signatures_take_sig.1.params = [(⟨#[115, 101, 108, 102]⟩ : Str), (⟨#[105, 116, 101, 109]⟩ : Str)] := by kernel_rfl
theorem noPct : (N_Signatures_take_sig.1.sc.lookup (⟨#[37, 101]⟩ : Str), N_Signatures_take_sig.1.sc.lookup (⟨#[37, 115]⟩ : Str), N_Signatures_init.1.sc.lookup (⟨#[37, 101]⟩ : Str), N_Signatures_init.1.sc.lookup (⟨#[37, 115]⟩ : Str), N_Signatures_init.1.sc.lookup (⟨#[37, 100]⟩ : Str), N_Opener_init.1.sc.lookup (⟨#[37, 100]⟩ : Str), N_Names_init.1.sc.lookup (⟨#[37, 100]⟩ : Str)) = (none, none, none, none, none, none, none) := by kernel_rfl
theorem clN_ini (W : KOk c p) {n : Nat} (ih : GoodCl c (3 * n) (clN p n)) {items : D} {k : Nat} {r : D × Nat} (h : (((sigInit (tbX p) p.CS setS N_Signatures_init.1.sc N_Signatures_take_sig.1.sc (⟨#[105, 116, 101, 109, 115]⟩ : Str) (⟨#[105, 116, 101, 109]⟩ : Str) N_Signatures_take_sig.1.body items k (viewI N_Signatures_init.1.body)).run (clN p n)).map fun q => (D.obj p.CS q.1, q.2)) = some r) : GoodCall c (3 * n + 3) p.CS [items] k r.1 r.2 := by
  obtain ⟨⟨l, k₁⟩, h1, rfl⟩ := Option.map_eq_some_iff.mp h
  obtain ⟨fI, scI, i1, i2, i3, FI⟩ := W.inS
  obtain ⟨scT, t1, FT⟩ := W.fns _ (mem_of_lookup tsFn)
  obtain ⟨z1, z⟩ := Prod.mk.inj noPct
  obtain ⟨z2, z⟩ := Prod.mk.inj z
  obtain ⟨z3, z⟩ := Prod.mk.inj z
  obtain ⟨z4, z⟩ := Prod.mk.inj z
  rw [← i3, ← t1, ← W.tb] at h1
  exact class_snd W.mkS i1 i2 (sig_snd (c := c) (κ := 3 * n) W.T ih W.setS (key := (⟨#[83, 105, 103, 110, 97, 116, 117, 114, 101, 115, 46, 116, 97, 107, 101, 95, 115, 105, 103]⟩ : Str)) (C := p.CS) (by rw [W.tb]; exact tsM p) (tsSelf ▸ FT) FI (by rw [t1]; exact z1) (by rw [t1]; exact z2) (by rw [i3]; exact z3) (by rw [i3]; exact z4) (by rw [i3]; exact (Prod.mk.inj z).1) _ _ h1)
theorem clN_opn (W : KOk c p) {n : Nat} (ih : GoodCl c (3 * n) (clN p n)) {args : List D} {k : Nat} {r : D × Nat} (h : (((subInit (tbX p) p.CO setO N_Opener_init.1.sc N_Names_init.1.sc N_Opener_init.1.params.tail N_Names_init.1.params.tail N_Names_init.1.body args k (viewU N_Opener_init.1.body)).run (clN p n)).map fun q => (D.obj p.CO q.1, q.2)) = some r) : GoodCall c (3 * n + 3) p.CO args k r.1 r.2 := by
  obtain ⟨⟨l, k₁⟩, h1, rfl⟩ := Option.map_eq_some_iff.mp h
  obtain ⟨fO, fN, sO, sN, i1, i2, i3, i4, O, FN⟩ := W.inO
  obtain ⟨_, z⟩ := Prod.mk.inj noPct
  obtain ⟨_, z⟩ := Prod.mk.inj z
  obtain ⟨_, z⟩ := Prod.mk.inj z
  obtain ⟨_, z⟩ := Prod.mk.inj z
  obtain ⟨_, z⟩ := Prod.mk.inj z
  rw [← i3, ← i4, ← W.tb] at h1
  exact class_snd W.mkO i1 i2 (sup_snd (c := c) (κ := 3 * n) W.T ih W.setO O FN (by rw [i3]; exact (Prod.mk.inj z).1) (by rw [i4]; exact (Prod.mk.inj z).2) _ _ h1)
theorem goodN (W : KOk c p) : ∀ n, GoodCl c (3 * n) (clN p n)
  | 0 => fun key ds k d k' h => nopO <| h
  | n + 1 => fun key ds k d k' h => by
    have ih := goodN W n
    cases hf : fnsX.lookup key with
    | some f =>
      rw [clN_fn hf] at h
      obtain ⟨scope, hs, F⟩ := W.fns _ (mem_of_lookup hf)
      dsimp only at hs F
      rw [← hs, ← W.tb] at h
      exact (fn_snd W.T ih F ds k _ h).le.le
    | none =>
      rw [clN] at h
      dsimp only at h
      rw [hf] at h
      by_cases q : key = (⟨#[83, 105, 103, 110, 97, 116, 117, 114, 101, 115]⟩ : Str)
      · subst q
        have h := (if_pos rfl).symm.trans h
        cases ds with
        | nil => exact nopO <| h
        | cons items r =>
          cases r with
          | nil => rw [W.atS]; exact clN_ini W ih h
          | cons _ _ => exact nopO <| h
      · have h := (if_neg q).symm.trans h
        by_cases q : key = (⟨#[79, 112, 101, 110, 101, 114]⟩ : Str)
        · subst q
          have h := (if_pos rfl).symm.trans h
          rw [W.atO]
          exact clN_opn W ih h
        · exact nopO <| (if_neg q).symm.trans h
end Mine

-- F0
namespace Mine
theorem zip_skip {p : Str} {v : Value} {qs : List (Str × Value)} : ∀ {ns : List Str}, p ∉ ns → ns.filterMap (fun n => (((p, v) :: qs).lookup n).map fun w => (n, w)) = ns.filterMap fun n => (qs.lookup n).map fun w => (n, w) := by
  intro ns
  induction ns with
  | nil => exact fun _ => rfl
  | cons n r ih =>
    intro h
    obtain ⟨h1, h2⟩ := not_or.mp (mt List.mem_cons.mpr h)
    rw [List.filterMap_cons, List.filterMap_cons, ih h2, lk_skip h1]
theorem zip_find {ps : List Str} : ∀ {vs : List Value}, ps.Nodup → vs.length = ps.length → (ps.filterMap fun n => ((ps.zip vs).lookup n).map fun v => (n, v)) = ps.zip vs := by
  induction ps with
  | nil => exact fun _ _ => rfl
  | cons p ps ih =>
    intro vs hn hl
    cases vs with
    | nil => exact absurd hl (Ne.symm (Nat.succ_ne_zero _))
    | cons v vs =>
      obtain ⟨h1, h2⟩ := List.nodup_cons.mp hn
      rw [List.zip_cons_cons, List.filterMap_cons, zip_skip h1, ih h2 (Nat.succ.inj hl), List.lookup_cons, beq_self_eq_true]
      rfl
theorem zip_has {ps : List Str} : ∀ {vs : List Value}, vs.length = ps.length → ∀ n ∈ ps, ¬ ((ps.zip vs).lookup n).isNone = true := by
  induction ps with
  | nil => exact fun _ _ h => absurd h List.not_mem_nil
  | cons p ps ih =>
    intro vs hl n h
    cases vs with
    | nil => exact absurd hl (Ne.symm (Nat.succ_ne_zero _))
    | cons v vs =>
      rw [List.zip_cons_cons]
      by_cases q : p = n
      · subst q
        rw [List.lookup_cons, beq_self_eq_true]
        exact Bool.noConfusion
      · rw [lk_skip q]
        exact ih (Nat.succ.inj hl) n ((List.mem_cons.mp h).resolve_left (Ne.symm q))
noncomputable abbrev ps' (ar : List Arg) : List Str := ar.map (·.arg)
theorem bind_plain {fd : FuncData} (h1 : fd.params.posonlyargs = []) (h2 : fd.params.vararg = none) (h3 : fd.params.kwonlyargs = []) (h4 : fd.params.kwarg = none) (h5 : fd.defaults = .none) {ps : List Str} (hp : fd.params.args.map (·.arg) = ps) (hn : ps.Nodup) {vs : List Value} (hl : vs.length = ps.length) :
    bindArgs fd ⟨vs, []⟩ = pure (ps.zip vs) := by
  obtain ⟨name, qual, ⟨po, ar, va, ko, kd, kw, df⟩, body, sc, gl, clo, de, kwd, doc, pm, an, co, ct, bl⟩ := fd
  dsimp only at h1 h2 h3 h4 h5 hp
  subst h1 h2 h3 h4 h5 hp
  refine (if_neg fun h => ?_).trans ?_
  · have h : (decide (vs.length > (ar.map (·.arg)).length) && true) = true := h
    rw [hl, Bool.and_true] at h
    exact absurd (of_decide_eq_true h) (Nat.lt_irrefl _)
  refine (if_neg fun h => ?_).trans ?_
  · have e : (ps' ar).filter (fun n => (((ps' ar).zip vs).lookup n).isNone) = [] := List.filter_eq_nil_iff.mpr (zip_has hl)
    have h : (!(((ps' ar).take ((ps' ar).length - (List.drop (0 - (ps' ar).length) ([] : List Value)).length)).filter fun n => (((ps' ar).zip vs).lookup n).isNone).isEmpty) = true := h
    rw [List.drop_nil, List.length_nil, Nat.sub_zero, List.take_length, e] at h
    exact Bool.noConfusion h
  · have z : List.zip (List.drop ((ps' ar).length - (List.drop (0 - (ps' ar).length) ([] : List Value)).length) (ps' ar)) (List.drop (0 - (ps' ar).length) ([] : List Value)) = [] := by rw [List.drop_nil, List.zip_nil_right]
    refine (congrArg (fun z => Bind.bind (m := Sem) (forIn z _ _) _) z).trans ?_
    exact congrArg (pure : List (Str × Value) → Sem (List (Str × Value))) ((congrArg (List.filterMap fun n => (((ps' ar).zip vs).lookup n).map fun v => (n, v)) (List.append_nil (ps' ar))).trans (zip_find hn hl))
end Mine

-- H3
namespace Mine
noncomputable section
noncomputable def topRunG (ok : Thread → Bool) (st : SharedT → Thread → Option (SharedT × Thread)) : Nat → SharedT → Thread → Option SharedT
  | 0, _, _ => none
  | n + 1, s, t => match through t with
    | true => some s
    | false => match ok t with
      | false => none
      | true => match st s t with
        | some (s', t') => topRunG ok st n s' t'
        | none => none
noncomputable def okQ (n₀ : Nat) (ann : Option Value) := Fast.tw6613529449190102663 n₀ ann
noncomputable def stQ (p : Program) (w : World) := Fast.tw10156331382660048174 (Fast.tw11892475500146522536 Fast.tw14364793385576792824) p w
theorem stQ_eq (p : Program) (w : World) : stQ p w = stepT (denote treeTable) p w := by
  unfold stQ
  rw [← Fast.te10156331382660048174, ← Fast.te11892475500146522536, ← Fast.te14364793385576792824]
theorem okQ_eq (n₀ : Nat) (ann : Option Value) : okQ n₀ ann = stepOk n₀ ann := by
  unfold okQ
  rw [← Fast.te6613529449190102663]
theorem topRunG_spec {p : Program} {w : World} {n₀ : Nat} {ann : Option Value} : ∀ {n : Nat} {s s' : SharedT} {t : Thread}, topRunG (stepOk n₀ ann) (stepT (denote treeTable) p w) n s t = some s' → topRun treeTable p w n₀ ann n s.abs t = some s'.abs
  | 0, _, _, _, h => by cases h
  | n + 1, s, s', t, h => by
    unfold topRunG at h
    unfold topRun
    cases ht : through t with
    | true => rw [ht] at h; cases h; rfl
    | false =>
      rw [ht] at h
      cases hk : stepOk n₀ ann t with
      | false => rw [hk] at h; cases h
      | true =>
        rw [hk] at h
        cases hs : stepT (denote treeTable) p w s t with
        | none => rw [hs] at h; cases h
        | some r => obtain ⟨s₂, t₂⟩ := r; rw [hs] at h; simp only [stepT_spec hs]; exact topRunG_spec h
noncomputable def tree0 (P : Params) : BT := ((boot_heap P).objs.toList.foldl (fun (x : BT × Nat) o => (x.1.ins x.2 o, x.2 + 1)) (.nil, 0)).1
noncomputable def s0 (P : Params) (os : OsState) : SharedT := ⟨tree0 P, (boot_heap P).objs.size, (boot_heap P).life, #[], boot_drawn, boot_toks, os⟩
theorem s0_abs (P : Params) (os : OsState) : (s0 P os).abs = ⟨boot_heap P, #[], boot_drawn, boot_toks, os⟩ := by kernel_rfl
theorem boot_size (P : Params) : ((boot_heap P).isNs mainGlobals && (#[] : Array GenState).size == 0, (boot_heap P).objs.size, (boot_heap P).nsMap mainGlobals "__annotations__") = (true, 11, some (.ref 6)) := by kernel_rfl
noncomputable abbrev pw : Program := PySem.Challenge.pw_nz0399_01
noncomputable def qv : Program := { pw with main := { pw.main with body := pw.main.body.drop 48 } }
noncomputable def looseN : List Str := (pw.boundNames.filter fun x => !(x == (⟨#[108, 97, 119]⟩ : Str))).eraseDups
noncomputable def looks (P : Params) (s : Shared) := (staticsOk (importedModules pw.main.body) (boot_heap P) s.heap && namesBound pw s.heap && gensDone s && laidKept (boot_heap P) s.heap,
  openSeen qv looseN (importedModules pw.main.body) (fun s => xlAt qv [] s && recOk [] s) true s)
noncomputable def looksQ (P : Params) (s : Shared) := (staticsOk (importedModules pw.main.body) (boot_heap P) s.heap && namesBound pw s.heap && gensDone s && laidKept (boot_heap P) s.heap,
  Fast.tw4187177175401517315 qv looseN (importedModules pw.main.body) (fun s => xlAt qv [] s && recOk [] s) true s)
end
end Mine

-- F1
namespace Mine
noncomputable def fragOf (h : Heap) (as : List Addr) : Frag := as.filterMap fun a => (h.get? a).map fun o => (a, o)
theorem fragOf_in {h : Heap} : ∀ {as : List Addr}, (fragOf h as).In h
  | [], a, o, e => by cases e
  | b :: r, a, o, e => by
    unfold fragOf at e
    rw [List.filterMap_cons] at e
    cases q : h.get? b with
    | none => rw [q] at e; exact fragOf_in a o e
    | some x =>
      rw [q] at e
      simp only [Option.map_some] at e
      rw [List.lookup_cons] at e
      by_cases z : a = b
      · subst z
        simp only [beq_self_eq_true] at e
        rw [q]; exact e
      · rw [show (a == b) = false by simpa using z] at e
        exact fragOf_in a o e
noncomputable def fdOf : Data → Option FuncData
  | .func fd => some fd
  | _ => none
theorem fdOf_some {d : Data} {fd : FuncData} : fdOf d = some fd → d = .func fd := by
  cases d <;> first | exact fun h => nopO h | exact fun h => congrArg _ (Option.some.inj h)
noncomputable def fnV (K : Frag) (a : Addr) := (K.lookup a).bind fun o => (fdOf o.data).map fun fd => (fd.body, fd.params, fd.scope, fd.closure, fd.globals, fd.builtins, fd.defaults, codeIn K fd.code fd.qualname, fd.code)
noncomputable def fnD (a : Addr) (cl : List (Str × Addr)) (st : Option Stmt) := (fdef st).map fun q => (FuncBody.stmts q.2.1, q.1, q.2.2, cl, mainGlobals, builtinsNs, Value.none, true, Value.ref (a - 1))
noncomputable def stOk (st : Option Stmt) : Bool := (fdef st).elim false fun q => q.1.posonlyargs.isEmpty && q.1.vararg.isNone && q.1.kwonlyargs.isEmpty && q.1.kwarg.isNone && decide (q.1.args.map (·.arg)).Nodup && (q.1.args.map (·.arg)).all (isLoc q.2.2.names) && !q.2.2.isCoroutine && !q.2.2.isGenerator && q.2.2.kind == .function
structure FnS (K : Frag) (a : Addr) (cl : List (Str × Addr)) (ps : List Str) (body : List Stmt) (scope : Scope) : Prop where
  ob : ∃ oc od osl fd, K.lookup a = some ⟨oc, od, .func fd, osl⟩ ∧ codeIn K fd.code fd.qualname = true ∧ fd.body = .stmts body ∧ fd.closure = cl ∧ fd.scope = scope ∧ fd.globals = mainGlobals ∧ fd.builtins = builtinsNs ∧
    (∀ vs, vs.length = ps.length → bindArgs fd ⟨vs, []⟩ = pure (ps.zip vs)) ∧ fd.code = .ref (a - 1) ∧ (fd.params.posonlyargs ++ fd.params.args).map (·.arg) = ps
  nd : ps.Nodup
  loc : ∀ x ∈ ps, isLoc scope.names x = true
  co : scope.isCoroutine = false
  gen : scope.isGenerator = false
  kind : scope.kind = .function
theorem fnS_of {K : Frag} {a : Addr} {cl : List (Str × Addr)} {st : Option Stmt} (h : fnV K a = fnD a cl st) (k : stOk st = true) : ∃ scope : Scope, scope.names = (toFn st).sc ∧ FnS K a cl (toFn st).params (toFn st).body scope := by
  unfold stOk at k
  unfold fnD fnV at h
  unfold toFn
  generalize fdef st = q at *
  cases q with
  | none => exact nopB k
  | some q =>
    obtain ⟨k, k8, k9⟩ := and3 k
    obtain ⟨k, k6, k7⟩ := and3 k
    obtain ⟨k, k4, k5⟩ := and3 k
    obtain ⟨k1, k2, k3⟩ := and3 k
    obtain ⟨⟨oc, od, da, osl⟩, e, h⟩ := Option.bind_eq_some_iff.mp h
    obtain ⟨fd, e2, g⟩ := Option.map_eq_some_iff.mp h
    cases fdOf_some e2
    obtain ⟨h1, g⟩ := Prod.mk.inj g
    obtain ⟨h2, g⟩ := Prod.mk.inj g
    obtain ⟨h3, g⟩ := Prod.mk.inj g
    obtain ⟨h4, g⟩ := Prod.mk.inj g
    obtain ⟨h5, g⟩ := Prod.mk.inj g
    obtain ⟨h6, g⟩ := Prod.mk.inj g
    obtain ⟨h7, g⟩ := Prod.mk.inj g
    obtain ⟨h8, h9⟩ := Prod.mk.inj g
    have p1 := List.isEmpty_iff.mp k1
    exact ⟨q.2.2, rfl, ⟨oc, od, osl, fd, e, h8, h1, h4, h3, h5, h6, fun vs hv => bind_plain (h2 ▸ p1) (h2 ▸ Option.isNone_iff_eq_none.mp k2) (h2 ▸ List.isEmpty_iff.mp k3) (h2 ▸ Option.isNone_iff_eq_none.mp k4) h7 (h2 ▸ rfl) (dec k5) hv, h9, by rw [h2, p1]; rfl⟩, dec k5, List.all_eq_true.mp k6, Bool.not_inj k7, Bool.not_inj k8, eq_of_beq k9⟩
theorem FnS.k {c : Cx} {a : Addr} {ps : List Str} {body : List Stmt} {scope : Scope} (h : FnS c.K a [] ps body scope) : FnK c a ps body scope := by
  obtain ⟨oc, od, osl, fd, e1, e2, e3, e4, e5, e6, e7, e8, e9, e10⟩ := h.ob
  exact ⟨⟨oc, od, osl, fd, e1, e2, e3, e4, e5, e6, e7, e8⟩, h.nd, h.loc, h.co, h.gen, h.kind⟩
end Mine

-- F2
namespace Mine
noncomputable def aS : Addr := 693
noncomputable def aO : Addr := 526
/-- the functions' addresses, in fnsX's order -/
noncomputable def adrs : List Addr := [29, 36, 36, 43, 55, 60, 65, 79, 704, 711, 718, 723, 728, 735, 742, 749, 754, 761, 766, 248, 549, 556, 563, 568, 575, 582, 594, 615, 622, 629, 634, 655, 662, 669, 676, 683]
noncomputable def atX (x : Str) : Addr := if x = (⟨#[83, 105, 103, 110, 97, 116, 117, 114, 101, 115]⟩ : Str) then aS else if x = (⟨#[79, 112, 101, 110, 101, 114]⟩ : Str) then aO else (((fnsX.map (·.1)).zip adrs).lookup x).getD 0
noncomputable def stX : List (Option Stmt) := [body0[3]?, body0[4]?, body0[4]?, body0[6]?, body0[8]?, body0[9]?, body0[10]?, body0[12]?, body0[37]?, body0[38]?, body0[39]?, body0[40]?, body0[41]?, body0[42]?, body0[43]?, body0[44]?, body0[45]?, body0[46]?, body0[47]?, (clsBody body0[31]?)[9]?, (clsBody body0[35]?)[1]?, (clsBody body0[35]?)[2]?, (clsBody body0[35]?)[3]?, (clsBody body0[35]?)[4]?, (clsBody body0[35]?)[5]?, (clsBody body0[35]?)[6]?, (clsBody body0[35]?)[8]?, (clsBody body0[35]?)[11]?, (clsBody body0[35]?)[12]?, (clsBody body0[35]?)[13]?, (clsBody body0[35]?)[14]?, (clsBody body0[35]?)[17]?, (clsBody body0[35]?)[18]?, (clsBody body0[35]?)[19]?, (clsBody body0[35]?)[20]?, (clsBody body0[35]?)[21]?]
noncomputable def kAs : List Addr := adrs ++ adrs.map (· - 1) ++ [cStatics, 22, 262, 263, 194, 195, 271, 282, 283, 525, 526, 541, 542, 692, 693]
theorem adr_ok : fnsX.map (fun q => atX q.1) = adrs := by kernel_rfl
theorem st_ok : stX.all stOk = true := by kernel_rfl
theorem st_fn : fnsX.map (·.2) = stX.map toFn := by kernel_rfl
noncomputable def stSI : Option Stmt := (clsBody body0[35]?)[0]?
noncomputable def stOI : Option Stmt := (clsBody body0[32]?)[0]?
noncomputable def stNI : Option Stmt := (clsBody body0[31]?)[0]?
theorem sti_ok : (stOk stSI && stOk stOI && stOk stNI) = true := by kernel_rfl
noncomputable def methV (K : Frag) (C : Addr) (q : Str × Str) := (plainGet K C q.1, findIn K (.ref C) q.1, isFn K (.ref (atX q.2)), keepIn K (.ref (atX q.2)))
noncomputable def methD (q : Str × Str) : Bool × Option (Option Value) × Bool × Bool := (true, some (some (.ref (atX q.2))), true, true)
noncomputable def attrV (K : Frag) (C : Addr) (a : Str) := (plainGet K C a, hasDictIn K C, (match findIn K (.ref C) a with | some t => noGet K t | none => false), findIn K (.ref C) "__setattr__", plainOver K C, takerIn K C a)
noncomputable def attrD (a : Str) : Bool × Bool × Bool × Option (Option Value) × Bool × Option (Option Value) := (true, true, true, some (some (.builtin "object.__setattr__")), true, some none)
noncomputable def supV (K : Frag) := ((match K.lookup 271 with | some ⟨_, _, .cell v, _⟩ => some v | _ => none), (match K.lookup 282 with | some ⟨_, _, .fields vs, _⟩ => (match vs[2]? with | some (Value.str file _) => PySem.Challenge.pw_nz0399_01.main.file == file | _ => false) | _ => false), (clsIn K aO).isSome, mroIn K aO (.ref aO), ks_superIn K aO aO ("__init__" : Str), typeIn K (.ref 195), fnIn K 195, nsIn K cStatics "thirdparty.any")
noncomputable def supD : Option (Option Value) × Bool × Bool × Option Bool × Option (Option Value) × Option Value × Bool × Option (Option Value) := (some (some (.ref aO)), true, true, some true, some (some (.ref 195)), some (.type "function"), true, some none)
noncomputable def bltX : List (Str × Value) := [((⟨#[108, 101, 110]⟩ : Str), .builtin "len"), ((⟨#[108, 105, 115, 116]⟩ : Str), .type "list"), ((⟨#[116, 117, 112, 108, 101]⟩ : Str), .type "tuple"), ((⟨#[114, 97, 110, 103, 101]⟩ : Str), .type "range"), ((⟨#[122, 105, 112]⟩ : Str), .type "zip"), ((⟨#[101, 110, 117, 109, 101, 114, 97, 116, 101]⟩ : Str), .type "enumerate"), ("super", .type "super")]
noncomputable def clsV (K : Frag) := (makesIn K aS, makesIn K aO, findIn K (.ref aS) "__init__", typeIn K (.ref 542), findIn K (.ref aO) "__init__", typeIn K (.ref 283))
noncomputable def clsD : Bool × Bool × Option (Option Value) × Option Value × Option (Option Value) × Option Value := (true, true, some (some (.ref 542)), some (.type "function"), some (some (.ref 283)), some (.type "function"))
noncomputable def obs1 (K : Frag) := (fnsX.map fun q => fnV K (atX q.1), fnV K 542, fnV K 283, fnV K 195)
noncomputable def val1 := (stX.zip adrs).map (fun q => fnD q.2 [] q.1)
noncomputable def val1' := (val1, fnD 542 [] stSI, fnD 283 [(("__class__" : Str), 271)] stOI, fnD 195 [] stNI)
noncomputable def obs2 (K : Frag) := (methS.map (methV K aS), methO.map (methV K aO), attrS.map (attrV K aS), attrO.map (attrV K aO), clsV K, supV K)
noncomputable def val2 := (methS.map methD, methO.map methD, attrS.map attrD, attrO.map attrD, clsD, supD)
noncomputable def obs3 (K : Frag) (mg mb : Str → Option Value) := (fnNames.map fun x => (mg x, keepIn K (.ref (atX x))), mg (⟨#[84, 72, 73, 83]⟩ : Str), K.lookup 22, bltX.map (fun q => (mg q.1, mb q.1)))
noncomputable def val3 (t1 t2 : Tok) (n : Nat) := (fnNames.map fun x => (some (Value.ref (atX x)), true), some (Value.ref 22), some (tupO [.str (⟨#[118, 97, 114]⟩ : Str) t1, .str (⟨#[116, 104, 105, 115]⟩ : Str) t2] n), bltX.map (fun q => ((none : Option Value), some q.2)))
end Mine

-- F3
namespace Mine
noncomputable def yF (s : Shared) := (obs1 (fragOf s.heap kAs), obs2 (fragOf s.heap kAs), obs3 (fragOf s.heap kAs) (s.heap.nsMap mainGlobals) (s.heap.nsMap builtinsNs), s.heap.isNs mainGlobals && s.heap.isNs builtinsNs)
noncomputable def yA (_ : World) := (val1', val2, val3 196 197 0, true)
noncomputable def runN (w : World) (os : OsState) : Option SharedT := topRunG (okQ 11 (some (.ref 6))) (stQ pw w) 5300 (s0 w.params os) (topStub pw)
noncomputable def endN (w : World) (os : OsState) := (runN w os).map (fun s => (looksQ w.params s.abs, yF s.abs))
theorem run_f (w : World) (os : OsState) : endN (w.withFollow "special-get-raises" false) os = some ((true, openGood qv looseN), yA w) := by kernel_rfl
theorem run_t (w : World) (os : OsState) : endN (w.withFollow "special-get-raises" true) os = some ((true, openGood qv looseN), yA w) := by kernel_rfl
end Mine

-- F4
namespace Mine
theorem looks_two {P : Params} {s : Shared} {b : Bool} {g : _} (l : looks P s = (b, g)) : (staticsOk (importedModules pw.main.body) (boot_heap P) s.heap && namesBound pw s.heap && gensDone s && laidKept (boot_heap P) s.heap) = b ∧ openSeen qv looseN (importedModules pw.main.body) (fun s => xlAt qv [] s && recOk [] s) true s = g := Prod.mk.inj l
theorem endN_all (w : World) (os : OsState) : endN w os = some ((true, openGood qv looseN), yA w) :=
  byRow2 "special-get-raises" (P := fun w => ∀ os, endN w os = some ((true, openGood qv looseN), yA w)) run_f run_t w os
theorem looksQ_eq (P : Params) (s : Shared) : looksQ P s = looks P s := by
  unfold looksQ looks
  rw [← Fast.te4187177175401517315]
theorem run_all (w : World) (os : OsState) : ∃ s : Shared, topRun treeTable pw w 11 (some (.ref 6)) 5300 ⟨boot_heap w.params, #[], boot_drawn, boot_toks, os⟩ (topStub pw) = some s ∧ looks w.params s = (true, openGood qv looseN) ∧ yF s = yA w := by
  have h := endN_all w os
  unfold endN runN at h
  rw [okQ_eq, stQ_eq] at h
  obtain ⟨s, h1, h2⟩ := Option.map_eq_some_iff.mp h
  have r := topRunG_spec h1
  rw [s0_abs] at r
  refine ⟨s.abs, r, ?_, (Prod.mk.inj h2).2⟩
  rw [← looksQ_eq]
  exact (Prod.mk.inj h2).1
theorem opn : opening pw = plainProg pw.main.scope.names := by kernel_rfl
theorem fen (s : Shared) : fenceModules? pw s = some s := by kernel_rfl
noncomputable abbrev xT (s : Shared) : Bool := xlAt qv [] s && recOk [] s
theorem topFrom_of {tb : String → Option Builtin} {p : Program} {w : World} {N : Nat} {s₀ s₁ : Shared} (z : (s₀.heap.isNs mainGlobals && s₀.gens.size == 0) = true) (r : topRun tb p w s₀.heap.objs.size (s₀.heap.nsMap mainGlobals "__annotations__") N s₀ (topStub p) = some s₁) (l : (staticsOk (importedModules p.main.body) s₀.heap s₁.heap && namesBound p s₁.heap && gensDone s₁ && laidKept s₀.heap s₁.heap) = true) : topFrom tb p w N s₀ = some s₁ := by
  unfold topFrom
  rw [z]
  dsimp only
  rw [r]
  dsimp only [Option.bind]
  rw [l]
theorem openEnds_of {tb : String → Option Builtin} {p : Program} {w : World} {N : Nat} {s₀ s₁ : Shared} (e : fencedOpening tb p w N = some s₀) (t : topFrom tb p w N s₀ = some s₁) : openEnds tb p w N = some s₁ := by
  unfold openEnds
  rw [e]
  exact t
theorem shared_eq {s : Shared} {h : Heap} {g : Array GenState} {d : Drawn} {k : Nat} (e : (s.heap, s.gens, s.drawn, s.toks) = (h, g, d, k)) : s = ⟨h, g, d, k, s.os⟩ := by
  obtain ⟨a, b, c, d, f⟩ := s
  cases e
  rfl
theorem left : LeftO pw qv looseN xT yF yA 5300 := fun w => by
  obtain ⟨s₀, e, e'⟩ := Option.map_eq_some_iff.mp (boot_open (N := 5300) opn rfl fen w)
  obtain ⟨s₁, r, l, y⟩ := run_all w s₀.os
  rw [← shared_eq e'] at r
  have h0 := (Prod.mk.inj e').1
  have z := boot_size w.params
  rw [← h0] at z
  obtain ⟨z1, z⟩ := Prod.mk.inj z
  obtain ⟨z2, z3⟩ := Prod.mk.inj z
  obtain ⟨l1, l2⟩ := looks_two l
  rw [← h0] at l1
  have hg : s₀.gens = #[] := (Prod.mk.inj (Prod.mk.inj e').2).1
  rw [openEnds_of e (topFrom_of (by rw [hg]; exact z1) (by rw [z2, z3]; exact r) l1)]
  exact congrArg some (Prod.ext l2 y)
end Mine

-- F5
namespace Mine
structure Facts (K : Frag) (mg mb : Str → Option Value) : Prop where
  f1 : obs1 K = val1'
  f2 : obs2 K = val2
  f3 : obs3 K mg mb = val3 196 197 0
noncomputable def yP (_ : World) (h : Heap) : Prop := ∃ K mg mb, Frag.In K h ∧ h.Ns mainGlobals mg ∧ h.Ns builtinsNs mb ∧ Facts K mg mb
theorem yP_of (w : World) (s : Shared) (e : yF s = yA w) : yP w s.heap := by
  obtain ⟨e1, e⟩ := Prod.mk.inj e
  obtain ⟨e2, e⟩ := Prod.mk.inj e
  obtain ⟨e3, e⟩ := Prod.mk.inj e
  obtain ⟨n1, n2⟩ := Bool.and_eq_true_iff.mp e
  exact ⟨_, _, _, fragOf_in, .of_isNs n1, .of_isNs n2, e1, e2, e3⟩
theorem yP_keeps (w : World) (h h' : Heap) (x : yP w h) (k : ∀ b o, h.get? b = some o → h'.get? b = some o) : yP w h' := by
  obtain ⟨K, mg, mb, a, b, c, d⟩ := x
  exact ⟨K, mg, mb, a.keeps k, b.keeps k, c.keeps k, d⟩
theorem map_at {α β : Type} {l : List α} {f g : α → β} (h : l.map f = l.map g) {x : α} (hx : x ∈ l) : f x = g x := by
  induction l with
  | nil => cases hx
  | cons y r ih =>
    simp only [List.map_cons, List.cons.injEq] at h
    rcases List.mem_cons.mp hx with rfl | hx
    · exact h.1
    · exact ih h.2 hx
theorem zip_at' {α β γ δ : Type} {f : α → β} {g : γ × δ → β} {u : α → δ} {v : γ → ε} {w : α → ε} : ∀ {l : List α} {m : List γ}, l.map f = (m.zip (l.map u)).map g → l.map w = m.map v → ∀ x ∈ l, ∃ y ∈ m, f x = g (y, u x) ∧ w x = v y
  | [], _, _, _, x, hx => by cases hx
  | a :: l, [], h, h2, x, hx => by cases h2
  | a :: l, b :: m, h, h2, x, hx => by
    simp only [List.map_cons, List.zip_cons_cons, List.cons.injEq] at h h2
    rcases List.mem_cons.mp hx with rfl | hx
    · exact ⟨b, List.mem_cons_self, h.1, h2.1⟩
    · obtain ⟨y, hy, a, b⟩   := zip_at' h.2 h2.2 x hx
      exact ⟨y, List.mem_cons_of_mem _ hy, a, b⟩
section
variable {K : Frag} {mg mb : Str → Option Value}
theorem Facts.fns (F : Facts K mg mb) : ∀ q ∈ fnsX, ∃ scope : Scope, scope.names = q.2.sc ∧ FnS K (atX q.1) [] q.2.params q.2.body scope := by
  intro q hq
  obtain ⟨e, _⟩ := Prod.mk.inj F.f1
  unfold val1 at e
  rw [← adr_ok] at e
  obtain ⟨st, hs, e1, e2⟩ := zip_at' e st_fn q hq
  rw [e2]
  exact fnS_of e1 (List.all_eq_true.mp st_ok st hs)
theorem stis : stOk stSI = true ∧ stOk stOI = true ∧ stOk stNI = true := by
  have := sti_ok
  simp only [Bool.and_eq_true] at this
  exact ⟨this.1.1, this.1.2, this.2⟩
theorem Facts.si (F : Facts K mg mb) : ∃ scope : Scope, scope.names = (toFn stSI).sc ∧ FnS K 542 [] (toFn stSI).params (toFn stSI).body scope := fnS_of (Prod.mk.inj (Prod.mk.inj F.f1).2).1 stis.1
theorem Facts.oi (F : Facts K mg mb) : ∃ scope : Scope, scope.names = (toFn stOI).sc ∧ FnS K 283 [(("__class__" : Str), 271)] (toFn stOI).params (toFn stOI).body scope := fnS_of (Prod.mk.inj (Prod.mk.inj (Prod.mk.inj F.f1).2).2).1 stis.2.1
theorem Facts.ni (F : Facts K mg mb) : ∃ scope : Scope, scope.names = (toFn stNI).sc ∧ FnS K 195 [] (toFn stNI).params (toFn stNI).body scope := fnS_of (Prod.mk.inj (Prod.mk.inj (Prod.mk.inj F.f1).2).2).2 stis.2.2
end
end Mine

-- F6
namespace Mine
theorem mem_of_contains {x : Str} {l : List Str} (h : l.contains x = true) : x ∈ l := List.contains_iff_mem.mp h
theorem sI : toFn stSI = N_Signatures_init.1 := N_Signatures_init.2.symm
theorem oI : toFn stOI = N_Opener_init.1 := N_Opener_init.2.symm
theorem nI : toFn stNI = N_Names_init.1 := N_Names_init.2.symm
theorem sIp : N_Signatures_init.1.params = [(⟨#[115, 101, 108, 102]⟩ : Str), (⟨#[105, 116, 101, 109, 115]⟩ : Str)] := by kernel_rfl
theorem oIp : N_Opener_init.1.params = (⟨#[115, 101, 108, 102]⟩ : Str) :: N_Opener_init.1.params.tail := by kernel_rfl
theorem nIp : N_Names_init.1.params = (⟨#[115, 101, 108, 102]⟩ : Str) :: N_Names_init.1.params.tail := by kernel_rfl
theorem oIc : N_Opener_init.1.sc.all (fun x => !(x.2 == .cell)) = true := by kernel_rfl
theorem noSuper : (pw.main.scope.names.lookup ("super" : Str)).isSome = false := by kernel_rfl
structure CxOk (c : Cx) (p : Par) : Prop where
  F : Facts c.K c.mg c.mb
  at_ : c.at_ = atX
  prog : c.prog = pw
  tb : c.tb = tbX p
  cs : p.CS = aS
  co : p.CO = aO
  cells : c.cells.length = p.cells.length ∧ ∀ (i : Nat) v n, c.cells[i]? = some v → p.cells[i]? = some n → ∃ t, v = .int n t
  mix : c.mix = p.mix
section
variable {c : Cx} {p : Par}
theorem CxOk.m1 (W : CxOk c p) {q : Str × Str} (h : q ∈ methS) : methV c.K aS q = methD q := map_at (Prod.mk.inj W.F.f2).1 h
theorem CxOk.m2 (W : CxOk c p) {q : Str × Str} (h : q ∈ methO) : methV c.K aO q = methD q := map_at (Prod.mk.inj (Prod.mk.inj W.F.f2).2).1 h
theorem CxOk.m3 (W : CxOk c p) {a : Str} (h : a ∈ attrS) : attrV c.K aS a = attrD a := map_at (Prod.mk.inj (Prod.mk.inj (Prod.mk.inj W.F.f2).2).2).1 h
theorem CxOk.m4 (W : CxOk c p) {a : Str} (h : a ∈ attrO) : attrV c.K aO a = attrD a := map_at (Prod.mk.inj (Prod.mk.inj (Prod.mk.inj (Prod.mk.inj W.F.f2).2).2).2).1 h
theorem CxOk.m5 (W : CxOk c p) : clsV c.K = clsD := (Prod.mk.inj (Prod.mk.inj (Prod.mk.inj (Prod.mk.inj (Prod.mk.inj W.F.f2).2).2).2).2).1
theorem CxOk.m6 (W : CxOk c p) : supV c.K = supD := (Prod.mk.inj (Prod.mk.inj (Prod.mk.inj (Prod.mk.inj (Prod.mk.inj W.F.f2).2).2).2).2).2
theorem CxOk.m7 (W : CxOk c p) {q : Str × Value} (h : q ∈ bltX) : c.mg q.1 = none ∧ c.mb q.1 = some q.2 := by
  have := map_at (Prod.mk.inj (Prod.mk.inj (Prod.mk.inj W.F.f3).2).2).2 h
  exact Prod.mk.inj this
theorem methOk {C : Addr} {q : Str × Str} (h : methV c.K C q = methD q) : plainGet c.K C q.1 = true ∧ findIn c.K (.ref C) q.1 = some (some (.ref (atX q.2))) ∧ isFn c.K (.ref (atX q.2)) = true ∧ keepIn c.K (.ref (atX q.2)) = true := by
  obtain ⟨a, h⟩ := Prod.mk.inj h
  obtain ⟨b, h⟩ := Prod.mk.inj h
  exact ⟨a, b, Prod.mk.inj h⟩
theorem attrOk {C : Addr} {a : Str} (h : attrV c.K C a = attrD a) : (plainGet c.K C a = true ∧ hasDictIn c.K C = true ∧ ∃ t, findIn c.K (.ref C) a = some t ∧ noGet c.K t = true) ∧ SetOk c.K C a := by
  obtain ⟨h1, h⟩ := Prod.mk.inj h
  obtain ⟨h2, h⟩ := Prod.mk.inj h
  obtain ⟨h3, h⟩ := Prod.mk.inj h
  obtain ⟨h4, h⟩ := Prod.mk.inj h
  obtain ⟨h5, h6⟩ := Prod.mk.inj h
  refine ⟨⟨h1, h2, ?_⟩, h4, h5, h6, h2⟩
  revert h3
  cases q : findIn c.K (.ref C) a with
  | none => intro h; cases h
  | some t => intro h; exact ⟨t, rfl, h⟩
theorem CxOk.T (W : CxOk c p) : TbOk c := by
  have hb : ∀ q ∈ bltX, c.mg q.1 = none ∧ c.mb q.1 = some q.2 := fun q h => W.m7 h
  have hfn := (Prod.mk.inj W.F.f3).1
  refine ⟨fun x hx => ?_, fun C m key h => ?_, fun C a h => ?_, fun x d h => ?_, hb ((⟨#[108, 101, 110]⟩ : Str), .builtin "len") ?_, hb ((⟨#[108, 105, 115, 116]⟩ : Str), .type "list") ?_, hb ((⟨#[116, 117, 112, 108, 101]⟩ : Str), .type "tuple") ?_, hb ((⟨#[114, 97, 110, 103, 101]⟩ : Str), .type "range") ?_, hb ((⟨#[122, 105, 112]⟩ : Str), .type "zip") ?_, ?_, ?_, hb ((⟨#[101, 110, 117, 109, 101, 114, 97, 116, 101]⟩ : Str), .type "enumerate") ?_⟩
  · rw [W.tb] at hx
    rw [W.at_]
    exact Prod.mk.inj (map_at hfn (mem_of_contains hx))
  · rw [W.tb] at h
    rw [W.at_]
    have h : (if C = p.CS then methS.lookup m else if C = p.CO then methO.lookup m else none) = some key := h
    split at h
    · rename_i e; rw [e, W.cs]; exact methOk (W.m1 (mem_of_lookup h))
    · split at h
      · rename_i e; rw [e, W.co]; exact methOk (W.m2 (mem_of_lookup h))
      · cases h
  · rw [W.tb] at h
    have h : (if C = p.CS then attrS.contains a else if C = p.CO then attrO.contains a else false) = true := h
    split at h
    · rename_i e; rw [e, W.cs]; exact (attrOk (W.m3 (mem_of_contains h))).1
    · split at h
      · rename_i e; rw [e, W.co]; exact (attrOk (W.m4 (mem_of_contains h))).1
      · cases h
  · rw [W.tb] at h
    have h : List.lookup x [((⟨#[84, 72, 73, 83]⟩ : Str), D.tup [.str (⟨#[118, 97, 114]⟩ : Str), .str (⟨#[116, 104, 105, 115]⟩ : Str)])] = some d := h
    have hm := mem_of_lookup h
    simp only [List.mem_cons, List.not_mem_nil, or_false, Prod.mk.injEq] at hm
    obtain ⟨rfl, rfl⟩ := hm
    obtain ⟨_, h⟩ := Prod.mk.inj W.F.f3
    obtain ⟨h1, h⟩ := Prod.mk.inj h
    refine ⟨_, h1, fun G hG => .tup (hG _ _ (Prod.mk.inj h).1) rfl fun i v d a b => ?_⟩
    match i with
    | 0 => cases a; cases b; exact .str _ _
    | 1 => cases a; cases b; exact .str _ _
    | i + 2 => simp at a
  · exact List.mem_cons_self
  · exact List.mem_cons_of_mem _ List.mem_cons_self
  · exact List.mem_cons_of_mem _ (List.mem_cons_of_mem _ List.mem_cons_self)
  · exact List.mem_cons_of_mem _ (List.mem_cons_of_mem _ (List.mem_cons_of_mem _ List.mem_cons_self))
  · exact List.mem_cons_of_mem _ (List.mem_cons_of_mem _ (List.mem_cons_of_mem _ (List.mem_cons_of_mem _ List.mem_cons_self)))
  · rw [W.tb]; exact W.cells
  · rw [W.tb]; exact W.mix
  · exact List.mem_cons_of_mem _ (List.mem_cons_of_mem _ (List.mem_cons_of_mem _ (List.mem_cons_of_mem _ (List.mem_cons_of_mem _ List.mem_cons_self))))
theorem CxOk.sup (W : CxOk c p) {sO : Scope} (hs : sO.names = N_Opener_init.1.sc) (S : FnS c.K 283 [(("__class__" : Str), 271)] N_Opener_init.1.params N_Opener_init.1.body sO) : SupK c aO 283 195 N_Opener_init.1.params.tail N_Opener_init.1.body sO := by
  obtain ⟨oc, od, osl, fd, e1, e2, e3, e4, e5, e6, e7, e8, e9, e10⟩ := S.ob
  obtain ⟨h1, h⟩ := Prod.mk.inj W.m6
  obtain ⟨h2, h⟩ := Prod.mk.inj h
  obtain ⟨h3, h⟩ := Prod.mk.inj h
  obtain ⟨h4, h⟩ := Prod.mk.inj h
  obtain ⟨h5, h⟩ := Prod.mk.inj h
  obtain ⟨h6, h⟩ := Prod.mk.inj h
  obtain ⟨h7, h8⟩ := Prod.mk.inj h
  have hsu := W.m7 (q := ("super", .type "super")) (List.mem_cons_of_mem _ (List.mem_cons_of_mem _ (List.mem_cons_of_mem _ (List.mem_cons_of_mem _ (List.mem_cons_of_mem _ (List.mem_cons_of_mem _ List.mem_cons_self))))))
  have hn := S.nd
  have hl := S.loc
  rw [oIp] at hn hl e8 e10
  have ⟨cl', cld, csl, hc⟩ : ∃ cl' cld csl, c.K.lookup 271 = some ⟨cl', cld, .cell (some (.ref aO)), csl⟩ := by
    revert h1
    split
    · rename_i a b v d e; intro h; cases h; exact ⟨_, _, _, e⟩
    · intro h; cases h
  have ⟨ccl, cdd, vs, ccs, file, tf, hv, hf, hp⟩ : ∃ ccl cdd vs ccs file tf, c.K.lookup 282 = some ⟨ccl, cdd, .fields vs, ccs⟩ ∧ vs[2]? = some (.str file tf) ∧ ((pw.main.file : Str) == file) = true := by
    revert h2
    split
    · rename_i e
      split
      · rename_i file tf e2; intro h; exact ⟨_, _, _, _, file, tf, e, e2, h⟩
      · intro h; cases h
    · intro h; cases h
  have ⟨ar, ha, hb⟩ : ∃ ar, (fd.params.posonlyargs ++ fd.params.args).head? = some ar ∧ ar.arg = (⟨#[115, 101, 108, 102]⟩ : Str) := by
    revert e10
    cases fd.params.posonlyargs ++ fd.params.args with
    | nil => intro h; cases h
    | cons x r => intro h; simp only [List.map_cons, List.cons.injEq] at h; exact ⟨x, rfl, h.1⟩
  refine ⟨⟨oc, od, osl, fd, 271, 282, cl', cld, csl, ccl, cdd, ccs, vs, file, tf, ar, e1, e2, e3, e4, e5, e6, e7, e8, hc, e9, hv, hf, by rw [W.prog]; exact hp, ha, hb⟩, hn, hl, fun x hx => ?_, S.co, S.gen, S.kind, h3, h4, h5, h6, h7, hsu.1, hsu.2, by rw [W.prog]; exact noSuper, h8⟩
  rw [hs] at hx
  have := List.all_eq_true.mp oIc x hx
  simpa using this
theorem CxOk.ok (W : CxOk c p) : KOk c p := by
  obtain ⟨g1, h⟩ := Prod.mk.inj W.m5
  obtain ⟨g2, h⟩ := Prod.mk.inj h
  obtain ⟨g3, h⟩ := Prod.mk.inj h
  obtain ⟨g4, h⟩ := Prod.mk.inj h
  obtain ⟨g5, g6⟩ := Prod.mk.inj h
  refine ⟨W.tb, W.T, fun q hq => ?_, ?_, ?_, by rw [W.cs]; exact g1, by rw [W.co]; exact g2, ?_, fun a h => ?_, fun a h => ?_, ?_⟩
  · obtain ⟨sc, a, b⟩ := W.F.fns q hq
    exact ⟨sc, a, by rw [W.at_]; exact b.k⟩
  · rw [W.at_, W.cs]; unfold atX; rw [if_pos rfl]
  · rw [W.at_, W.co]; unfold atX; rw [if_neg (by decide +kernel), if_pos rfl]
  · obtain ⟨sc, a, b⟩ := W.F.si
    rw [sI] at a b
    rw [sIp] at b
    exact ⟨542, sc, by rw [W.cs]; exact g3, g4, a, b.k⟩
  · rw [W.cs]; exact (attrOk (W.m3 (mem_of_contains h))).2
  · rw [W.co]; exact (attrOk (W.m4 (mem_of_contains h))).2
  · obtain ⟨sO, a, b⟩ := W.F.oi
    obtain ⟨sN, a', b'⟩ := W.F.ni
    rw [oI] at a b
    rw [nI] at a' b'
    rw [nIp] at b'
    exact ⟨283, 195, sO, sN, by rw [W.co]; exact g5, g6, a, a', by rw [W.co]; exact W.sup a b, b'.k⟩
end
end Mine

-- F8
namespace Mine
noncomputable abbrev RP : Program := PySem.Challenge.rw_nz0399_01.row.prog
theorem ints_at : ∀ {vs : List Value} {ns : List Int}, IntsAre vs ns → vs.length = ns.length ∧ ∀ (i : Nat) v n, vs[i]? = some v → ns[i]? = some n → ∃ t, v = .int n t
  | _, _, .nil => ⟨rfl, fun i v n h => by simp at h⟩
  | _, _, .cons n t r => by
    obtain ⟨a, b⟩ := ints_at r
    refine ⟨by simp [a], fun i v m h1 h2 => ?_⟩
    cases i with
    | zero => simp at h1 h2; subst h1 h2; exact ⟨t, rfl⟩
    | succ i => exact b i v m (by simpa using h1) (by simpa using h2)
theorem CSO : aS ≠ aO := by decide +kernel
theorem feed_ne : (⟨#[102, 101, 101, 100]⟩ : Str) = "feed" := by decide +kernel
theorem noCell : (N_law.1.sc.all fun x => !(x.2 == .cell)) = true := by kernel_rfl
theorem good_end {ns : List Int} {cl : Str → Option Addr} {mean : ExcName → Option Value} {s₁ s' : Shared} (k : ∀ b o, s₁.heap.get? b = some o → s'.heap.get? b = some o) (os : s'.os = s₁.os) (g : s'.gens = #[]) :
    GoodW PySem.Challenge.rw_nz0399_01.row.claim cl mean [ofPy (PyData.list (ns.map PyData.int))] s₁ (.ok (.ret (.bool true))) s' :=
  ⟨.inl ⟨.bool true, .bool true, [], rfl, fun _ => rfl, readsW_of_reads (d := .bool true) (.bool true), by kernel_rfl, fun _ => ⟨List.nodup_nil, fun _ h => nomatch h⟩⟩, k, os, g⟩
theorem handover {w : World} {s₁ s : Shared} {name : Str} {scope : Scope} {L f : Addr} {cd : Value} {A : Around} {stmts : List Stmt} {m : Str → Option Value} {news : List (Addr × Obj)} {d' D1 : Addr} {o' : Obj} {ys : List Value} {ns ms : List Int} {mix : Int} {t0 t1 : Tok}
    {cl : Str → Option Addr} {mean : ExcName → Option Value} {E : Value → Shared → Prop}
    (Y : yP w s₁.heap) (nl : s₁.heap.NoLimit) (F : Fr s₁.heap L s.heap m) (N : News s₁.heap L s.heap news) (h1 : (d', o') ∈ news) (h2 : (D1, LCg.lst ys) ∈ news) (hne : d' ≠ D1)
    (hm : m "feed" = some (.ref d')) (hd : o'.IsDictOf (PySem.strKind RP w) [("cells", .ref D1), ("at", .int 0 t0), ("mix", .int mix t1)])
    (hI : IntsAre ys ns) (hns : ns.length ≤ 100) (hst : stmts = lawTail) (hsc : scope.names = N_law.1.sc) (hk : scope.kind = .function) (hA : AOk 21 A)
    (hL : s₁.heap.get? L = none) (hg : s.gens = #[]) (hos : s.os = s₁.os) :
    wpAny (model RP w) A (execs stmts (envOf name scope L f cd)) (fun fl s' => GoodW PySem.Challenge.rw_nz0399_01.row.claim cl mean [ofPy (PyData.list (ms.map PyData.int))] s₁ (.ok (.ret (match fl with | .ret v => v | _ => .none))) s') E s := by
  obtain ⟨K, mg, mb, hK, hmg, hmb, FA⟩ := Y
  let p : Par := ⟨ns, mix⟩
  let c : Cx := ⟨RP, w, d', K, mg, mb, D1, ys, mix, tbX p, atX⟩
  have W : CxOk c p := ⟨FA, rfl, rfl, rfl, rfl, rfl, ints_at hI, rfl⟩
  have KO : KOk c p := W.ok
  generalize hPE : envOf name scope L f cd = PE
  have p1 : PE.scope.kind = .function := by rw [← hPE]; exact hk
  have p2 : PE.globals = mainGlobals := by rw [← hPE]; rfl
  have p3 : PE.builtins = builtinsNs := by rw [← hPE]; rfl
  have p4 : PE.locals = L := by rw [← hPE]; rfl
  have hsc' : PE.scope.names = N_law.1.sc := by rw [← hPE]; exact hsc
  have hkd : ∀ x, PE.kindOf x ≠ some .cell := fun x e => by
    have e : PE.scope.names.lookup x = some .cell := e
    rw [hsc'] at e
    have := List.all_eq_true.mp noCell _ (mem_of_lookup e)
    simp at this
  have hi : CInj PE := fun x y a e => absurd e (hkd x)
  have hot : ∀ a, FHot PE a → a = L := fun a h => by
    rcases h with h | ⟨x, h, _⟩
    · rw [h, p4]
    · exact absurd h (hkd x)
  have hdL : d' ≠ L := (N _ h1).2.1
  have hDL : D1 ≠ L := (N _ h2).2.1
  let G : Heap := hideAll s.heap [d', L]
  have old : ∀ b o, s₁.heap.get? b = some o → G.get? b = some o := fun b o e => by
    refine hideAll_get _ (F.keep b o e) fun hm => ?_
    simp only [List.mem_cons, List.not_mem_nil, or_false] at hm
    rcases hm with rfl | rfl
    · rw [N.fresh h1] at e; cases e
    · rw [hL] at e; cases e
  have ok : Ok c G s 0 := by
    refine ⟨fun a o e => of_hideAll _ e, ⟨hK.keeps old, hmg.keeps old, hmb.keeps old, nl.keeps old, ?_⟩, hideAll_none _ List.mem_cons_self, ⟨t0, t1, Heap.dictOf_iff.mpr ⟨o', N.get h1, hd⟩⟩⟩
    refine hideAll_get _ (N.get h2) fun hm => ?_
    simp only [List.mem_cons, List.not_mem_nil, or_false] at hm
    rcases hm with e | e
    · exact hne e.symm
    · exact hDL e
  have st : St c PE G s 0 m [((⟨#[102, 101, 101, 100]⟩ : Str), false, .feed)] := by
    refine ⟨ok, ⟨p1, p2, p3, ⟨m, by rw [p4]; exact F.ns, fun _ _ _ => rfl⟩, fun x e => absurd e (hkd x)⟩, fun a h => ?_, fun x o d e => ?_, fun x y d dd a e => ?_, fun x d a e => ?_⟩
    · rw [hot a h]; exact ⟨hideAll_none _ (by simp), hdL.symm⟩
    · have := mem_of_lookup e
      simp only [List.mem_cons, List.not_mem_nil, or_false, Prod.mk.injEq] at this
      obtain ⟨rfl, rfl, rfl⟩ := this
      exact ⟨.ref d', by rw [feed_ne]; exact hm, Is.feed (c := c)⟩
    · have := mem_of_lookup e; simp at this
    · have := mem_of_lookup e; simp at this
  obtain ⟨vs, k', e⟩ := law_tail (p := p) (n := 0) hns
  rw [hst]
  have H : GoodCl c 21 (clN p 7) := goodN KO 7
  have B := evSs_snd (evS_snd KO.T H hi 20) lawTail [((⟨#[102, 101, 101, 100]⟩ : Str), false, .feed)] 0
  rw [hsc'] at B
  refine wpAny_mono (B _ e A G s m hA ⟨st, trivial⟩) (fun fl s' P => ?_) fun _ _ e => e.elim
  obtain ⟨G', m', st', go, fi⟩ := P
  cases fi with
  | ret i =>
    cases i
    refine good_end (fun b o e => go.step.keep b o (fun q => ?_) (fun q => ?_) (F.keep b o e)) (go.step.os.trans hos) (go.step.gens.trans hg)
    · rw [q, show c.fa = d' from rfl, N.fresh h1] at e; cases e
    · rcases q with q | ⟨x, d, q, _⟩
      · rw [hot b q, hL] at e; cases e
      · have := mem_of_lookup q; simp at this
end Mine

-- F10
namespace Mine
noncomputable abbrev rw0 : OpenLaw := PySem.Challenge.rw_nz0399_01
theorem t1 : rw0.row.wellSaid = true := by rw [Fast.te17960256430627541270]; kernel_rfl
theorem t2 : noRoadLSs { strict := true, foot := some rw0.bound', writes := rw0.writes, may := rw0.may } rw0.footing = true := by rw [Fast.te8326940854005059898]; kernel_rfl
theorem t5 : (rw0.bound'.all fun n => !builtinNamed n || rw0.about == [n] || !rw0.reads n) = true := by rw [Fast.named_eq]; kernel_rfl
theorem t6 : (namesMeet rw0.prog rw0.above fun x n => !rw0.own.contains n) = true := by rw [Fast.te17119622794617984870]; kernel_rfl
theorem t7 : noClassBlock rw0.prog rw0.footing = true := by kernel_rfl
theorem t8 : rw0.footing.all footLine = true := by kernel_rfl
theorem t9 : defStands rw0.about rw0.above = true := by kernel_rfl
theorem t10 : rw0.namesIt = true := by kernel_rfl
theorem t11 : (rw0.own.all fun n => !builtinNamed n) = true := by rw [Fast.named_eq]; kernel_rfl
theorem t12 : rw0.own.contains rw0.name = true := by kernel_rfl
theorem t13 : (rw0.own.eraseDups.length == rw0.own.length) = true := by kernel_rfl
theorem t14 : (namesMeet rw0.prog rw0.footing fun sc n => sc.kind == .module || sc.names.lookup n != some .globalExplicit) = true := by rw [Fast.te17119622794617984870]; kernel_rfl
theorem t15 : (namesMeet rw0.prog rw0.footing (fun sc n => (!(["type", "isinstance", "issubclass", "getattr", "hasattr"] : List Str).contains n || sc.names.lookup n == some .globalImplicit) &&
    (rw0.may != some n || sc.kind == .module || sc.names.lookup n == some .globalImplicit))) = true := by rw [Fast.te17119622794617984870]; kernel_rfl
theorem said : PySem.Challenge.rw_nz0399_01.wellSaid = true := by
  unfold OpenLaw.wellSaid
  repeat' (with_reducible refine look_both ?_ ?_)
  all_goals first
    | with_reducible exact t1 | with_reducible exact t2 | with_reducible exact t5 | with_reducible exact t6 | with_reducible exact t7 | with_reducible exact t8 | with_reducible exact t9 | with_reducible exact t10 | with_reducible exact t11 | with_reducible exact t12 | with_reducible exact t13 | with_reducible exact t14 | with_reducible exact t15
    | (as_aux_lemma => kernel_rfl)
end Mine

namespace Mine
noncomputable def kNone (_ : Params) : Frag := []
theorem kNone_in {P : Params} {h : Heap} : (kNone P).In h := fun a o e => nomatch e
theorem callerOk : AOk 22 callerA := ⟨rfl, by decide +kernel, by decide +kernel⟩
theorem nOk : namesOk qv (looseW qv looseN) (namesW qv looseN) = true := by kernel_rfl
theorem iNo : importsNone qv = true := by kernel_rfl
structure Stop (p : Prop) : Prop where
  go : p
theorem stopAt {M : Model} {A : Around} {env : Env} {r : List Stmt} {a : List Expr} {b : Nat} {c e : Pos} {d : Expr} {Q : Flow → Shared → Prop} {E : Value → Shared → Prop} {s : Shared} (h : Stop (wpAny M A (execs (.Assign [.Tuple a b c] d e :: r) env) Q E s)) : wpAny M A (execs (.Assign [.Tuple a b c] d e :: r) env) Q E s := h.go
end Mine
open Mine
local macro_rules | `(tactic| walk_at "execs cons") => `(tactic| (k_here; with_reducible refine Mine.stopAt ?_))
local macro_rules | `(tactic| k_qdec) => `(tactic| first | with_reducible exact Mine.nOk | with_reducible exact Mine.iNo)
theorem PySem.Challenge.cw_nz0399_01_holds : PySem.Challenge.rw_nz0399_01.Holds := by
  refine holds_law Mine.said fun said' => ?_
  refine holds_open (q := Mine.qv) (loose := Mine.looseN) (Xt := Mine.xT) (XP := XL Mine.qv []) (Yf := Mine.yF) (Ya := Mine.yA) (YP := Mine.yP) (N := 5300) Mine.left Mine.yP_of Mine.yP_keeps (fun s e => xl_of s (Bool.and_eq_true_iff.mp e).1) XL.keeps (by rfl) (by rfl) (by rfl) (fun s e => recFacts_of (Bool.and_eq_true_iff.mp e).2) (by rfl) said' (by decide +kernel) ⟨rfl, rfl, rfl, rfl, rfl, by decide +kernel⟩ ?hw ?hc
  case hw => w_witness2
  w_strict (
    clear said'
    intro w s₀ s₁ mg mb G Y fa o pm cd doc dV kV ho hd hcd hD hmg hg args vals as hpre hlay hrd hwl hlo
    have KX : (Mine.kNone w.params).In s₁.heap := Mine.kNone_in
    k_behind G ho hd hcd hD hmg hpre hlay hrd hwl hlo cd
    (all_goals try k_fold)
    k_steps
    refine Mine.Stop.mk ?_
    with_reducible rename Fr _ _ _ _ => hvF
    with_reducible rename Top _ _ _ _ _ _ => hvT
    with_reducible rename News _ _ _ _ => hvN
    refine' Mine.handover Y (Top.nolimit hvT) hvF hvN ?h1 ?h2 ?hne (if_pos rfl) ?hd ?hI ?hns (by kernel_rfl) (by kernel_rfl) rfl (Mine.AOk.deeper Mine.callerOk) (Mine.fresh_size _) ?hg rfl
    case hd => assumption
    case h1 => k_mem
    case h2 => k_mem
    case hI => assumption
    case hg => exact hg
    case hns =>
      simp only [List.length_map, List.length_take]
      omega
    case hne => exact Nat.ne_of_gt (by omega))
