import PyProof.Rows.All
import Wide.All
import OpenK.AllK
import Wide.FinOn
import HandS.ForMost
import HandS.TupAny
import HandS.TupMul
import HandS.Flow
import HandS.Deep
import HandS.Star
import HandS.Dict
import HandS.IsInst
import HandS.ForExc
import HandS.CallSlots
import HandS.Property
import HandS.MakeKwOnly
import HandS.Iter
import HandS.Zip
import HandS.Walk
import KE.GoesEnum
import HandS.TryOnly
import HandS.Style
import HandS.Small
import HandS.ExcInit
import HandS.ExcSuper
import KE.KExcSuper
import HandS.TryMany
import KE.KExcIs
import HandS.Comp
import HandS.SlotsOwn
import HandS.Defaults
import HandS.Head0
import HandS.Head1
import HandS.Head2
import HandS.HeadEnd
import HandS.HeadHook1
import HandS.HeadHook2
import HandS.MakeKw
import HandS.Words
import HandS.ForSpec
import PySem.Challenge.RW_answerparts_k03_worlds
set_option linter.all false
namespace Ev
open PySem

/-! ## Data, cells, outcomes -/
/-- what never changes: a value with all that hangs on it -/
inductive D where
  | non | bl (b : Bool) | int (i : Int) | str (s : Str)
  | tup (xs : List D) | lst (xs : List D)
  | ktup (xs : List D)
  | dct (t : Bool) (ks vs : List D)
  | ins (c : Nat) (fs : List Str) (vs : List D)
deriving Inhabited

/-- what a slot holds: data, a cell of the store, a caught exception -/
inductive W where
  | d (x : D) | ref (n : Nat) | ex (c : Nat) (fs : List D)
deriving Inhabited
/-- what an expression gives: a slot's value, or a new list or dict that nothing else knows -/
inductive RV where
  | w (x : W) | own (xs : List D) | ownd (t : Bool) (ks vs : List D)
deriving Inhabited
/-- what changes -/
inductive Cell where
  | lst (xs : List W) | dct (t : Bool) (ks vs : List D) | ins (c : Nat) (fs : List (Str × W))
deriving Inhabited
abbrev Store := List Cell
abbrev Env := List (Option W)
inductive Out (α : Type) where
  | ok (a : α) (S : Store) | exc (c : Nat) (fs : List D) (S : Store) | bad
def Out.bind {α β : Type} (m : Out α) (k : α → Store → Out β) : Out β := match m with
  | .ok a S => k a S
  | .exc c fs S => .exc c fs S
  | .bad => .bad
inductive SOut where
  | nx (σ : Env) (S : Store) | rt (v : RV) (S : Store) | bk (σ : Env) (S : Store) | ct (σ : Env) (S : Store)
  | exc (c : Nat) (fs : List D) (σ : Env) (S : Store) | bad

abbrev RV.d (x : D) : RV := .w (.d x)

mutual
def D.toPy : D → PyData
  | .non => .none | .bl b => .bool b | .int i => .int i | .str s => .str s
  | .tup xs => .tuple (D.toPys xs) | .lst xs => .list (D.toPys xs) | .ktup xs => .tuple (D.toPys xs)
  | .dct _ _ _ => .dict [] | .ins _ _ _ => .dict []
def D.toPys : List D → List PyData
  | [] => []
  | x :: xs => D.toPy x :: D.toPys xs
end
def D.shaped (x : D) : Bool := SeqAt.shaped x.toPy

def D.flat : D → Option L2.V
  | .non => some .non | .bl b => some (.bl b) | .int i => some (.int i) | .str s => some (.str s)
  | _ => none
def flats : List D → Option (List L2.V)
  | [] => some []
  | x :: xs => match x.flat, flats xs with
    | some v, some vs => some (v :: vs)
    | _, _ => none
def W.toD : W → Option D
  | .d x => some x
  | _ => none
def toDs : List W → Option (List D)
  | [] => some []
  | x :: xs => match x.toD, toDs xs with
    | some v, some vs => some (v :: vs)
    | _, _ => none

/-- what a value is just now -/
def view (S : Store) : RV → Option D
  | .w (.d x) => some x
  | .w (.ref n) => match S[n]? with
    | some (.lst xs) => (toDs xs).map .lst
    | some (.dct t ks vs) => some (.dct t ks vs)
    | _ => none
  | .w (.ex _ _) => none
  | .own xs => some (.lst xs)
  | .ownd t ks vs => some (.dct t ks vs)
/-- a value as a slot's: a new list is data from now on -/
def RV.toW : RV → W
  | .w x => x
  | .own xs => .d (.lst xs)
  | .ownd t ks vs => .d (.dct t ks vs)

def line : Nat := 16777216

/-! ## Keys of dicts -/
def D.keyK : D → Option L2.Key
  | .int i => some (.inl i) | .str s => some (.inr s)
  | _ => none
def keysK : List D → Option (List L2.Key)
  | [] => some []
  | x :: xs => match x.keyK, keysK xs with
    | some v, some vs => some (v :: vs)
    | _, _ => none
def D.keyT : D → Option (List L2.Key)
  | .tup xs => keysK xs
  | _ => none
def keysT : List D → Option (List (List L2.Key))
  | [] => some []
  | x :: xs => match x.keyT, keysT xs with
    | some v, some vs => some (v :: vs)
    | _, _ => none

/-! ## Operations on data -/
def bDv (j : Int) : Bool := decide (0 < j) && decide (j < 1073741824)
def bMul (i j : Int) : Bool := (decide (-(2 ^ 64) < i) && decide (i < 2 ^ 64)) || (decide (-(2 ^ 64) < j) && decide (j < 2 ^ 64))
def bPow (i j : Int) : Bool := decide (0 ≤ j) && decide (j ≤ 1000000) && decide (i.natAbs < 2 ^ 64)

def binD (op : Operator) (x y : D) : Option RV := match op, x, y with
  | .Add, .int i, .int j => some (.d (.int (i + j)))
  | .Add, .int i, .bl b => some (.d (.int (i + PyProof.Rows.b2i b)))
  | .Add, .str i, .str j => if i.length + j.length ≤ line then some (.d (.str (i ++ j))) else none
  | .Add, .tup xs, .tup ys => if xs.length + ys.length ≤ line then some (.d (.tup (xs ++ ys))) else none
  | .Add, .lst xs, .lst ys => if xs.length + ys.length ≤ line then some (.own (xs ++ ys)) else none
  | .Sub, .int i, .int j => some (.d (.int (i - j)))
  | .Mult, .int i, .int j => if bMul i j then some (.d (.int (i * j))) else none
  | .Mult, .lst xs, .int k => if 0 ≤ k ∧ k ≤ 1000 ∧ xs.length * k.toNat ≤ line then some (.own (List.replicate k.toNat xs).flatten) else none
  | .Mult, .tup xs, .int k => if 2 ≤ k ∧ k ≤ 1000 ∧ xs.length ≤ 1000 ∧ xs.length ≠ 0 then some (.d (.tup (List.replicate k.toNat xs).flatten)) else none
  | .FloorDiv, .int i, .int j => if bDv j then some (.d (.int (i / j))) else none
  | .Mod, .int i, .int j => if 0 < j then some (.d (.int (i % j))) else none
  | .Pow, .int i, .int j => if bPow i j then some (.d (.int (i ^ j.toNat))) else none
  | _, _, _ => none

def truD : D → Option Bool
  | .non => some false | .bl b => some b | .int i => some (i != 0)
  | .str s => if s.length ≤ line then some ((s.length : Int) != 0) else none
  | .tup xs => some (!xs.isEmpty) | .lst xs => some (!xs.isEmpty)
  | _ => none

def eqD (x y : D) : Option Bool := if x.shaped && y.shaped then some (PyData.eqv x.toPy y.toPy) else none
def isNonD : D → Bool
  | .non => true | _ => false
def inStr (x y : Str) : Bool := !(Builtin.Str.occurrences y x 0 y.length 1).isEmpty
def inItems (x : D) (xs : List D) : Option Bool := match x.flat, flats xs with
  | some v, some vs => some (L2.inV v vs)
  | _, _ => none
def inDeep (x : D) (xs : List D) : Option Bool :=
  if x.shaped && (D.lst xs).shaped then some ((D.toPys xs).any fun z => PyData.eqv z x.toPy) else none
/-- where a key stands -/
def findAt {κ : Type} [DecidableEq κ] (k : κ) : List κ → List D → Option D
  | k' :: ks, v :: vs => if k' = k then some v else findAt k ks vs
  | _, _ => none
/-- none: no rule; some none: not there. t: the keys are tuples -/
def getD? (t : Bool) (ks vs : List D) (x : D) : Option (Option D) :=
  if t then match x.keyT, keysT ks with
    | some k, some l => some (findAt k l vs)
    | _, _ => none
  else match x.keyK, keysK ks with
    | some k, some l => some (findAt k l vs)
    | _, _ => none

def cmpD (op : CmpOp) (x y : D) : Option Bool := match op, x, y with
  | .Eq, x, y => eqD x y
  | .NotEq, x, y => (eqD x y).map (!·)
  | .Lt, .int i, .int j => some (decide (i < j))
  | .LtE, .int i, .int j => some (decide (i ≤ j))
  | .Gt, .int i, .int j => some (decide (j < i))
  | .GtE, .int i, .int j => some (decide (j ≤ i))
  | .Is, x, .non => some (isNonD x)
  | .IsNot, x, .non => some (!isNonD x)
  | .In, .str i, .str j => some (inStr i j)
  | .NotIn, .str i, .str j => some (!inStr i j)
  | .In, x, .tup ys => inItems x ys
  | .NotIn, x, .tup ys => (inItems x ys).map (!·)
  | .In, x, .ktup ys => inItems x ys
  | .NotIn, x, .ktup ys => (inItems x ys).map (!·)
  | .In, x, .lst ys => match inItems x ys with | some b => some b | none => inDeep x ys
  | .NotIn, x, .lst ys => match inItems x ys with | some b => some (!b) | none => (inDeep x ys).map (!·)
  | .In, x, .dct t ks vs => (getD? t ks vs x).map (·.isSome)
  | .NotIn, x, .dct t ks vs => (getD? t ks vs x).map (!·.isSome)
  | _, _, _ => none

def atD (xs : List D) (i : Int) : Option D := L2.atI xs i
def getD (x i : D) : Option D := match x, i with
  | .lst xs, .int i => atD xs i
  | .tup xs, .int i => atD xs i
  | .str s, .int i => if s.length ≤ line then (L2.atI s.cps.toList i).map fun c => .str ⟨#[c]⟩ else none
  | .dct t ks vs, k => (getD? t ks vs k).join
  | _, _ => none
def cutD {α : Type} (xs : List α) (lo hi : Option Int) : List α := (xs.drop (HT.sIx xs.length 0 lo)).take (HT.sIx xs.length xs.length hi - HT.sIx xs.length 0 lo)
def sliceD (x : D) (lo hi : Option Int) : Option RV := match x with
  | .tup xs => some (.d (.tup (cutD xs lo hi)))
  | .lst xs => some (.own (cutD xs lo hi))
  | .str s => if s.length ≤ line then some (.d (.str (L2.cutS s lo hi))) else none
  | _ => none
def lenD : D → Option Int
  | .str s => if s.length ≤ line then some s.length else none
  | .tup xs => some xs.length
  | .lst xs => some xs.length
  | .dct _ ks _ => some ks.length
  | _ => none
end Ev
set_option linter.all false
namespace Ev
open PySem

/-! ## What is known of the text -/
structure Fr where
  N : List Str
  sc : Scope
  cells : List Str
  cap : List Str
inductive GV where
  | fn (i : Nat) | cls (i : Nat) | exc (i : Nat) | val (x : D)
structure FnI where
  st : Stmt
  N : List Str
  ps : List Str
  dfl : List D
  cells : List Str
  kwo : Bool := false
structure ClsI where
  frozen : Bool
  init : Nat
  flds : List Str
  meths : List (Str × Nat)
  props : List (Str × Nat)
structure ExcI where
  flds : List Str
  anc : List Nat
structure Gm where
  names : List (Str × GV)
  fns : List FnI
  clss : List ClsI
  excs : List ExcI

structure Rec where
  E : Fr → Env → Expr → Store → Out RV
  T : Fr → Env → Expr → Store → Out Bool
  B : Fr → Env → List Stmt → Store → SOut

def idx : List Str → Str → Option Nat
  | [], _ => none
  | y :: ys, x => if y = x then some 0 else (idx ys x).map (· + 1)
/-- a name of the module or a built-in, in this frame -/
def isGl (fr : Fr) (x : Str) : Bool := decide (fr.sc.names.lookup x = some .globalImplicit) && decide (x ≠ "__debug__")
/-- a built-in's name, unhidden -/
def isBi (G : Gm) (fr : Fr) (x y : Str) : Bool := decide (x = y) && isGl fr x && (G.names.lookup x).isNone
def isVar (fr : Fr) (x : Str) : Bool := (match fr.sc.names.lookup x with
  | some .local => true | some .cell => true | some .free => true | _ => false) && decide (x ≠ "__debug__") && decide (x ≠ "__classdict__")
def isLoc (fr : Fr) (x : Str) : Bool := (match fr.sc.names.lookup x with
  | some .local => true | some .cell => true | _ => false) && decide (x ≠ "__debug__") && decide (x ≠ "__classdict__") && !fr.cap.contains x

section
variable (G : Gm) (R : Rec) (fr : Fr) (σ : Env)

/-- the written arguments, as slots' values -/
def evArgs : List Expr → Store → Out (List W)
  | [], S => .ok [] S
  | .Starred e _ :: r, S => (R.E fr σ e S).bind fun v S1 => match view S1 v with
    | some (.tup xs) => (evArgs r S1).bind fun ws S2 => .ok (xs.map .d ++ ws) S2
    | some (.lst xs) => (evArgs r S1).bind fun ws S2 => .ok (xs.map .d ++ ws) S2
    | _ => .bad
  | e :: r, S => (R.E fr σ e S).bind fun v S1 => (evArgs r S1).bind fun ws S2 => .ok (v.toW :: ws) S2

/-- all data -/
def pureW : List W → Bool
  | [] => true
  | .d _ :: r => pureW r
  | _ :: _ => false

def frzW (S : Store) : W → Option D
  | .d x => some x
  | .ref n => view S (.w (.ref n))
  | .ex _ _ => none
def frzF (S : Store) : List (Str × W) → Option (List D)
  | [] => some []
  | (_, w) :: r => match frzW S w, frzF S r with
    | some x, some xs => some (x :: xs)
    | _, _ => none
/-- what a call with a store of its own hands on -/
def give (S : Store) : RV → Option RV
  | .w (.d x) => some (.d x)
  | .own xs => some (.own xs)
  | .ownd t ks vs => some (.ownd t ks vs)
  | .w (.ref n) => match S[n]? with
    | some (.lst xs) => (toDs xs).map .own
    | some (.dct t ks vs) => some (.ownd t ks vs)
    | some (.ins c fs) => match G.clss[c]? with
      | some ci => if ci.frozen then (frzF S fs).map fun vs => .d (.ins c (fs.map (·.1)) vs) else none
      | none => none
    | none => none
  | .w (.ex _ _) => none

def start (N : List Str) (ws : List W) : Env := ws.map some ++ List.replicate (N.length - ws.length) none

/-- a def's body at these parameters, over this store -/
def runB (fi : FnI) (ws : List W) (S : Store) : Out RV :=
  match R.B ⟨fi.N, L2.defScope fi.st, fi.cells, []⟩ (start fi.N ws) (L2.defBody fi.st) S with
  | .rt v S' => .ok v S'
  | .nx _ S' => .ok (.d .non) S'
  | .exc c fs _ S' => .exc c fs S'
  | _ => .bad
def callF (i : Nat) (ws : List W) (S : Store) : Out RV := match G.fns[i]? with
  | none => .bad
  | some fi => if ws.length = fi.ps.length then
      if pureW ws then
        match runB R fi ws [] with
        | .ok v S' => match give G S' v with
          | some v' => .ok v' S
          | none => .bad
        | .exc c fs _ => .exc c fs S
        | .bad => .bad
      else runB R fi ws S
    else .bad

def bindDfl : List Str → List D → List W
  | _, ds => ds.map .d
/-- positional, then by keyword, then defaults (of the last parameters) -/
def bindK (dfl : List D) (n : Nat) (kw : List (Str × W)) : List Str → Nat → Option (List W)
  | [], _ => some []
  | p :: ps, i => match kw.lookup p, bindK dfl n kw ps (i + 1) with
    | some w, some ws => some (w :: ws)
    | none, some ws => match dfl[i + dfl.length - n]? with
      | some x => if n ≤ i + dfl.length then some (.d x :: ws) else none
      | none => none
    | _, none => none
def bindArgs (fi : FnI) (ws : List W) (kw : List (Str × W)) : Option (List W) :=
  if ws.length ≤ fi.ps.length then (bindK fi.dfl fi.ps.length kw (fi.ps.drop ws.length) ws.length).map (ws ++ ·) else none

def makeC (c : Nat) (ws : List W) (S : Store) : Out RV := match G.clss[c]? with
  | none => .bad
  | some ci => match G.fns[ci.init]? with
    | none => .bad
    | some fi => if ci.frozen && pureW ws then
        match runB R fi (.ref 0 :: ws) [.ins c []] with
        | .ok (.w (.d .non)) S' => match give G S' (.w (.ref 0)) with
          | some v' => .ok v' S
          | none => .bad
        | .exc x fs _ => .exc x fs S
        | _ => .bad
      else
        match runB R fi (.ref S.length :: ws) (S ++ [.ins c []]) with
        | .ok (.w (.d .non)) S' => .ok (.w (.ref S.length)) S'
        | .exc x fs S' => .exc x fs S'
        | _ => .bad

/-- the class of an instance -/
def clsOf (S : Store) : RV → Option Nat
  | .w (.d (.ins c _ _)) => some c
  | .w (.ref n) => match S[n]? with
    | some (.ins c _) => some c
    | _ => none
  | _ => none
def callM (c : Nat) (m : Str) (ws : List W) (S : Store) : Out RV := match G.clss[c]? with
  | none => .bad
  | some ci => match ci.meths.lookup m with
    | some i => callF G R i ws S
    | none => .bad

def allB : List D → Option Bool
  | [] => some true
  | .bl b :: r => (allB r).map (b && ·)
  | _ => none
def intsD : List D → Option (List Int)
  | [] => some []
  | .int i :: r => (intsD r).map (i :: ·)
  | _ => none
def maxI : List Int → Option Int
  | [] => none
  | i :: r => match maxI r with
    | none => some i
    | some j => some (if i < j then j else i)
def minI : List Int → Option Int
  | [] => none
  | i :: r => match minI r with
    | none => some i
    | some j => some (if j < i then j else i)

/-- the type of data -/
def tyD : D → String
  | .non => "NoneType" | .bl _ => "bool" | .int _ => "int" | .str _ => "str" | .tup _ => "tuple" | .ktup _ => "tuple" | .lst _ => "list" | .dct _ _ _ => "dict" | .ins _ _ _ => ""
def isTy (x : D) (t : Str) : Option Bool := match x with
  | .ins _ _ _ => if t ∈ (["int", "bool", "str", "tuple", "list", "dict"] : List Str) then some false else none
  | x => if t = "int" then some (tyD x == "int" || tyD x == "bool")
    else if t = "bool" then some (tyD x == "bool") else if t = "str" then some (tyD x == "str") else if t = "tuple" then some (tyD x == "tuple")
    else if t = "list" then some (tyD x == "list") else if t = "dict" then some (tyD x == "dict") else none

def biCall (x : Str) (vs : List D) : Option RV :=
  if x = "len" then (match vs with | [y] => (lenD y).map fun n => .d (.int n) | _ => none)
  else if x = "int" then (match vs with | [.int i] => some (.d (.int i)) | [.bl b] => some (.d (.int (if b then 1 else 0))) | _ => none)
  else if x = "all" then (match vs with | [.lst xs] => (allB xs).map fun b => .d (.bl b) | _ => none)
  else if x = "max" then (match vs with | [.int i, .int j] => some (.d (.int (if j > i then j else i))) | [.lst xs] => ((intsD xs).bind maxI).map fun i => .d (.int i) | _ => none)
  else if x = "min" then (match vs with | [.int i, .int j] => some (.d (.int (if j < i then j else i))) | [.lst xs] => ((intsD xs).bind minI).map fun i => .d (.int i) | _ => none)
  else if x = "tuple" then (match vs with | [.lst xs] => some (.d (.tup xs)) | [.tup xs] => some (.d (.tup xs)) | _ => none)
  else if x = "list" then (match vs with | [.lst xs] => some (.own xs) | [.tup xs] => some (.own xs) | _ => none)
  else none

def enumFrom : Nat → List D → List D
  | _, [] => []
  | i, x :: xs => .tup [.int i, x] :: enumFrom (i + 1) xs
def zipD : List D → List D → List D
  | x :: xs, y :: ys => .tup [x, y] :: zipD xs ys
  | _, _ => []
def charsD (s : Str) : List D := s.cps.toList.map fun c => .str ⟨#[c]⟩
def rangeD (i j : Int) : List D := (List.range (j - i).toNat).map fun (k : Nat) => .int (i + (k : Int))
def bRg (i : Int) : Bool := decide (-(2 ^ 62) ≤ i) && decide (i < 2 ^ 62)

/-- a target's names get a value -/
def asg : Expr → W → Env → Option Env
  | .Name x _, w, σ => if isLoc fr x then (idx fr.N x).map fun i => σ.set i (some w) else none
  | _, _, _ => none
def asgs : List Expr → List D → Env → Option Env
  | [], [], σ => some σ
  | t :: ts, x :: xs, σ => (asg fr t (.d x) σ).bind fun σ1 => asgs ts xs σ1
  | _, _, _ => none
def asgT : Expr → W → Env → Option Env
  | .Tuple ts _ _, .d (.tup xs), σ => asgs fr ts xs σ
  | t, w, σ => asg fr t w σ

/-- what is walked: its items, and the cell that they stand in -/
def items (it : Expr) (S : Store) : Out (List D × Option Nat) := match it with
  | .Call (.Name x _) [e] [] _ =>
    if isBi G fr x "enumerate" then (R.E fr σ e S).bind fun v S1 => match v, view S1 v with
      | .w (.ref n), some (.lst xs) => .ok (xs, some n) S1
      | _, some (.lst xs) => .ok (enumFrom 0 xs, none) S1
      | _, some (.tup xs) => .ok (enumFrom 0 xs, none) S1
      | _, _ => .bad
    else if isBi G fr x "range" then (R.E fr σ e S).bind fun v S1 => match v with
      | .w (.d (.int j)) => if bRg j then .ok (rangeD 0 j, none) S1 else .bad
      | _ => .bad
    else itemsE e S it
  | .Call (.Name x _) [a, b] [] _ =>
    if isBi G fr x "zip" then (R.E fr σ a S).bind fun v S1 => (R.E fr σ b S1).bind fun u S2 => match view S2 v, view S2 u with
      | some (.lst xs), some (.lst ys) => .ok (zipD xs ys, none) S2
      | some (.tup xs), some (.tup ys) => .ok (zipD xs ys, none) S2
      | _, _ => .bad
    else itemsE a S it
  | e => itemsE e S it
where itemsE (_ : Expr) (S : Store) (it : Expr) : Out (List D × Option Nat) := (R.E fr σ it S).bind fun v S1 => match v, view S1 v with
  | .w (.ref n), some (.lst xs) => .ok (xs, some n) S1
  | _, some (.lst xs) => .ok (xs, none) S1
  | _, some (.tup xs) => .ok (xs, none) S1
  | _, some (.str s) => .ok (charsD s, none) S1
  | _, _ => .bad
end
end Ev
set_option linter.all false
set_option maxHeartbeats 1000000
namespace Ev
open PySem L2

/-! ## How data lies in a heap. F: what never changes -/
/-- what the head has told: the written part, the classes' addresses -/
structure Cs where
  K : PySem.W.Frag
  cl : Nat → Addr
  ex : Nat → Addr
  exf : Nat → List Str

inductive KvK : List D → List V → List (Key × V) → Prop where
  | nil : KvK [] [] []
  | cons {x : D} {k : Key} {v : V} {xs : List D} {vs : List V} {r : List (Key × V)} : x.keyK = some k → KvK xs vs r → KvK (x :: xs) (v :: vs) ((k, v) :: r)
inductive KvT : List D → List V → List (List Key × V) → Prop where
  | nil : KvT [] [] []
  | cons {x : D} {k : List Key} {v : V} {xs : List D} {vs : List V} {r : List (List Key × V)} : x.keyT = some k → KvT xs vs r → KvT (x :: xs) (v :: vs) ((k, v) :: r)
/-- a dict at a -/
def DctAt (H : Hp) (a : Addr) (t : Bool) (ks : List D) (vs : List V) : Prop :=
  (t = false ∧ ∃ kv, KvK ks vs kv ∧ H a = some (.dK kv)) ∨ (t = true ∧ ∃ kv, KvT ks vs kv ∧ H a = some (.dT kv))

mutual
inductive Rep (c : Cs) (F : Hp) : V → D → Prop where
  | non : Rep c F .non .non
  | bl (b : Bool) : Rep c F (.bl b) (.bl b)
  | int (i : Int) : Rep c F (.int i) (.int i)
  | str (s : Str) : Rep c F (.str s) (.str s)
  | tup {a : Addr} {vs : List V} {xs : List D} : F a = some (.tup vs) → Reps c F vs xs → Rep c F (.ref a) (.tup xs)
  | ktup {a : Addr} {vs : List V} {xs : List D} : (∀ H, SqT c.K H a vs) → (∃ o, c.K.lookup a = some o ∧ o.cls = .type "tuple") → Reps c F vs xs → Rep c F (.ref a) (.ktup xs)
  | lst {a : Addr} {vs : List V} {xs : List D} : F a = some (.lst vs) → Reps c F vs xs → Rep c F (.ref a) (.lst xs)
  | dct {a : Addr} {t : Bool} {ks xs : List D} {vs : List V} : DctAt F a t ks vs → Reps c F vs xs → Rep c F (.ref a) (.dct t ks xs)
  | ins {a dx : Addr} {n : Nat} {fs : List Str} {vs : List V} {xs : List D} : F a = some (.ins (c.cl n) dx (fs.zip vs)) → fs.length = vs.length → Reps c F vs xs → Rep c F (.ref a) (.ins n fs xs)
inductive Reps (c : Cs) (F : Hp) : List V → List D → Prop where
  | nil : Reps c F [] []
  | cons {v : V} {x : D} {vs : List V} {xs : List D} : Rep c F v x → Reps c F vs xs → Reps c F (v :: vs) (x :: xs)
end

theorem sqT_mono {K : PySem.W.Frag} {F F' : Hp} {a : Addr} {vs : List V} (h : SqT K F a vs) (s : Same F F') : SqT K F' a vs := by
  rcases h with (h | ⟨o, h⟩) | h
  · exact .inl (.inl (s _ _ h))
  · exact .inl (.inr ⟨o, s _ _ h⟩)
  · exact .inr h
theorem sqL_mono {K : PySem.W.Frag} {F F' : Hp} {a : Addr} {vs : List V} (h : SqL K F a vs) (s : Same F F') : SqL K F' a vs := s.seq h
theorem dct_mono {F F' : Hp} {a : Addr} {t : Bool} {ks : List D} {vs : List V} (h : DctAt F a t ks vs) (s : Same F F') : DctAt F' a t ks vs := by
  rcases h with ⟨e, kv, k, h⟩ | ⟨e, kv, k, h⟩
  · exact .inl ⟨e, kv, k, s _ _ h⟩
  · exact .inr ⟨e, kv, k, s _ _ h⟩
mutual
theorem Rep.mono {c : Cs} {F F' : Hp} (s : Same F F') : ∀ {v : V} {x : D}, Rep c F v x → Rep c F' v x
  | _, _, .non => .non
  | _, _, .bl b => .bl b
  | _, _, .int i => .int i
  | _, _, .str z => .str z
  | _, _, .tup h r => .tup (s _ _ h) (Reps.mono s r)
  | _, _, .ktup h z r => .ktup h z (Reps.mono s r)
  | _, _, .lst h r => .lst (s _ _ h) (Reps.mono s r)
  | _, _, .dct h r => .dct (dct_mono h s) (Reps.mono s r)
  | _, _, .ins h l r => .ins (s _ _ h) l (Reps.mono s r)
theorem Reps.mono {c : Cs} {F F' : Hp} (s : Same F F') : ∀ {vs : List V} {xs : List D}, Reps c F vs xs → Reps c F' vs xs
  | _, _, .nil => .nil
  | _, _, .cons h r => .cons (Rep.mono s h) (Reps.mono s r)
end
theorem Reps.length {c : Cs} {F : Hp} : ∀ {vs : List V} {xs : List D}, Reps c F vs xs → vs.length = xs.length
  | _, _, .nil => rfl
  | _, _, .cons _ r => congrArg (· + 1) (Reps.length r)
theorem Reps.app {c : Cs} {F : Hp} : ∀ {vs us : List V} {xs ys : List D}, Reps c F vs xs → Reps c F us ys → Reps c F (vs ++ us) (xs ++ ys)
  | _, _, _, _, .nil, r => r
  | _, _, _, _, .cons h t, r => .cons h (Reps.app t r)
theorem Reps.get {c : Cs} {F : Hp} : ∀ {vs : List V} {xs : List D} {i : Nat} {x : D}, Reps c F vs xs → xs[i]? = some x → ∃ v, vs[i]? = some v ∧ Rep c F v x
  | _, _, _, _, .nil, e => by simp at e
  | _, _, 0, x, .cons h _, e => by simp at e; subst e; exact ⟨_, rfl, h⟩
  | _, _, i + 1, x, .cons _ r, e => by
    obtain ⟨v, h1, h2⟩ := Reps.get (i := i) r (by simpa using e)
    exact ⟨v, by simpa using h1, h2⟩
theorem Reps.drop {c : Cs} {F : Hp} : ∀ (n : Nat) {vs : List V} {xs : List D}, Reps c F vs xs → Reps c F (vs.drop n) (xs.drop n)
  | 0, _, _, r => r
  | _ + 1, _, _, .nil => .nil
  | n + 1, _, _, .cons _ r => Reps.drop n r
theorem Reps.take {c : Cs} {F : Hp} : ∀ (n : Nat) {vs : List V} {xs : List D}, Reps c F vs xs → Reps c F (vs.take n) (xs.take n)
  | 0, _, _, _ => .nil
  | _ + 1, _, _, .nil => .nil
  | n + 1, _, _, .cons h r => .cons h (Reps.take n r)
theorem Reps.set {c : Cs} {F : Hp} {v : V} {x : D} (h : Rep c F v x) : ∀ {vs : List V} {xs : List D} (i : Nat), Reps c F vs xs → Reps c F (vs.set i v) (xs.set i x)
  | _, _, _, .nil => .nil
  | _, _, 0, .cons _ r => .cons h r
  | _, _, i + 1, .cons q r => .cons q (Reps.set h i r)

/-! ## Slots and cells. ρ: the cells' addresses -/
inductive WRep (c : Cs) (F : Hp) (ρ : List Addr) : V → W → Prop where
  | d {v : V} {x : D} : Rep c F v x → WRep c F ρ v (.d x)
  | ref {n : Nat} {a : Addr} : ρ[n]? = some a → WRep c F ρ (.ref a) (.ref n)
abbrev WReps (c : Cs) (F : Hp) (ρ : List Addr) : List V → List W → Prop := Paired (WRep c F ρ)
inductive FsRep (c : Cs) (F : Hp) (ρ : List Addr) : List (Str × V) → List (Str × W) → Prop where
  | nil : FsRep c F ρ [] []
  | cons {f : Str} {v : V} {w : W} {vs : List (Str × V)} {ws : List (Str × W)} : WRep c F ρ v w → FsRep c F ρ vs ws → FsRep c F ρ ((f, v) :: vs) ((f, w) :: ws)
def CRep (c : Cs) (F H : Hp) (ρ : List Addr) (a : Addr) : Cell → Prop
  | .lst ws => ∃ vs, H a = some (.lst vs) ∧ WReps c F ρ vs ws
  | .dct t ks xs => ∃ vs, DctAt H a t ks vs ∧ Reps c F vs xs
  | .ins n fs => ∃ dx vs, H a = some (.ins (c.cl n) dx vs) ∧ FsRep c F ρ vs fs
/-- the store lies in the heap -/
structure SRep (c : Cs) (F H : Hp) (ρ : List Addr) (S : Store) : Prop where
  sub : Same F H
  len : ρ.length = S.length
  nd : ρ.Nodup
  nf : ∀ a ∈ ρ, F a = none
  cell : ∀ (n : Nat) (cc : Cell) (a : Addr), S[n]? = some cc → ρ[n]? = some a → CRep c F H ρ a cc

/-- from one state to a later one -/
structure Step (F : Hp) (ρ : List Addr) (H F' : Hp) (ρ' : List Addr) (H' : Hp) : Prop where
  frz : Same F F'
  pre : ρ <+: ρ'
  newF : ∀ q o, F' q = some o → F q = some o ∨ H q = none
  newR : ∀ q, q ∈ ρ' → q ∈ ρ ∨ H q = none
  keep : ∀ q o, H q = some o → q ∉ ρ → H' q = some o
  dom : ∀ q o, H q = some o → ∃ o', H' q = some o'
theorem Step.refl (F : Hp) (ρ : List Addr) (H : Hp) : Step F ρ H F ρ H :=
  ⟨Same.refl F, List.prefix_refl _, fun _ _ h => .inl h, fun _ h => .inl h, fun _ _ h _ => h, fun _ o h => ⟨o, h⟩⟩
theorem none_of_dom {H H' : Hp} (d : ∀ q o, H q = some o → ∃ o', H' q = some o') {q : Addr} (h : H' q = none) : H q = none := by
  cases e : H q with
  | none => rfl
  | some o =>
    obtain ⟨o', e'⟩ := d q o e
    rw [h] at e'
    cases e'
theorem Step.trans {F F1 F2 : Hp} {ρ ρ1 ρ2 : List Addr} {H H1 H2 : Hp} (a : Step F ρ H F1 ρ1 H1) (b : Step F1 ρ1 H1 F2 ρ2 H2) : Step F ρ H F2 ρ2 H2 where
  frz := a.frz.trans b.frz
  pre := a.pre.trans b.pre
  newF := fun q o h => by
    rcases b.newF q o h with h | h
    · exact a.newF q o h
    · exact .inr (none_of_dom a.dom h)
  newR := fun q h => by
    rcases b.newR q h with h | h
    · exact a.newR q h
    · exact .inr (none_of_dom a.dom h)
  keep := fun q o h hn => b.keep q o (a.keep q o h hn) fun hm => by
    rcases a.newR q hm with z | z
    · exact hn z
    · rw [z] at h
      cases h
  dom := fun q o h => by
    obtain ⟨o1, h1⟩ := a.dom q o h
    exact b.dom q o1 h1

theorem WRep.mono {c : Cs} {F F' : Hp} {ρ ρ' : List Addr} (s : Same F F') (p : ρ <+: ρ') {v : V} {w : W} (h : WRep c F ρ v w) : WRep c F' ρ' v w := by
  cases h with
  | d r => exact .d (r.mono s)
  | ref e =>
    obtain ⟨t, rfl⟩ := p
    refine .ref ?_
    rw [List.getElem?_append_left (List.getElem?_eq_some_iff.mp e).1]
    exact e
theorem FsRep.mono {c : Cs} {F F' : Hp} {ρ ρ' : List Addr} (s : Same F F') (p : ρ <+: ρ') : ∀ {v : List (Str × V)} {w : List (Str × W)}, FsRep c F ρ v w → FsRep c F' ρ' v w
  | _, _, .nil => .nil
  | _, _, .cons h r => .cons (h.mono s p) (FsRep.mono s p r)
theorem WReps.mono {c : Cs} {F F' : Hp} {ρ ρ' : List Addr} (s : Same F F') (p : ρ <+: ρ') {v : List V} {w : List W} (h : WReps c F ρ v w) : WReps c F' ρ' v w :=
  Paired.mapP h fun _ _ r => r.mono s p

/-- a value of an expression; H₀: the heap ahead of it -/
def VRep (c : Cs) (F H : Hp) (ρ : List Addr) (H₀ : Hp) (v : V) : RV → Prop
  | .w x => WRep c F ρ v x
  | .own xs => ∃ a vs, v = .ref a ∧ H a = some (.lst vs) ∧ H₀ a = none ∧ F a = none ∧ a ∉ ρ ∧ Reps c F vs xs
  | .ownd t ks xs => ∃ a vs, v = .ref a ∧ DctAt H a t ks vs ∧ H₀ a = none ∧ F a = none ∧ a ∉ ρ ∧ Reps c F vs xs
theorem dct_some {H : Hp} {a : Addr} {t : Bool} {ks : List D} {vs : List V} (h : DctAt H a t ks vs) : ∃ o, H a = some o := by
  rcases h with ⟨_, _, _, h⟩ | ⟨_, _, _, h⟩ <;> exact ⟨_, h⟩
theorem dct_keep {H H' : Hp} {a : Addr} {t : Bool} {ks : List D} {vs : List V} (h : DctAt H a t ks vs) (k : ∀ o, H a = some o → H' a = some o) : DctAt H' a t ks vs := by
  rcases h with ⟨e, kv, r, h⟩ | ⟨e, kv, r, h⟩
  · exact .inl ⟨e, kv, r, k _ h⟩
  · exact .inr ⟨e, kv, r, k _ h⟩
theorem Step.fnone {F F' H H' : Hp} {ρ ρ' : List Addr} (st : Step F ρ H F' ρ' H') {a : Addr} (h : ∃ o, H a = some o) (hf : F a = none) : F' a = none := by
  obtain ⟨o, h⟩ := h
  cases e : F' a with
  | none => rfl
  | some u =>
    rcases st.newF a u e with z | z
    · rw [hf] at z; cases z
    · rw [h] at z; cases z
theorem Step.rnot {F F' H H' : Hp} {ρ ρ' : List Addr} (st : Step F ρ H F' ρ' H') {a : Addr} (h : ∃ o, H a = some o) (hr : a ∉ ρ) : a ∉ ρ' := fun hm => by
  obtain ⟨o, h⟩ := h
  rcases st.newR a hm with z | z
  · exact hr z
  · rw [h] at z; cases z
theorem VRep.mono {c : Cs} {F F' H H' : Hp} {ρ ρ' : List Addr} {H₀ : Hp} (st : Step F ρ H F' ρ' H') {v : V} {rv : RV} (h : VRep c F H ρ H₀ v rv) : VRep c F' H' ρ' H₀ v rv := by
  cases rv with
  | w x => exact WRep.mono st.frz st.pre h
  | own xs =>
    obtain ⟨a, vs, e, ha, h0, hf, hr, r⟩ := h
    exact ⟨a, vs, e, st.keep _ _ ha hr, h0, st.fnone ⟨_, ha⟩ hf, st.rnot ⟨_, ha⟩ hr, r.mono st.frz⟩
  | ownd t ks xs =>
    obtain ⟨a, vs, e, ha, h0, hf, hr, r⟩ := h
    exact ⟨a, vs, e, dct_keep ha fun o q => st.keep _ _ q hr, h0, st.fnone (dct_some ha) hf, st.rnot (dct_some ha) hr, r.mono st.frz⟩
theorem VRep.back {c : Cs} {F H : Hp} {ρ : List Addr} {H₀ H₁ : Hp} (d : ∀ q, H₀ q = none → H₁ q = none) {v : V} {rv : RV} (h : VRep c F H ρ H₀ v rv) : VRep c F H ρ H₁ v rv := by
  cases rv with
  | w x => exact h
  | own xs =>
    obtain ⟨a, vs, e, ha, h0, z⟩ := h
    exact ⟨a, vs, e, ha, d _ h0, z⟩
  | ownd t ks xs =>
    obtain ⟨a, vs, e, ha, h0, z⟩ := h
    exact ⟨a, vs, e, ha, d _ h0, z⟩

/-- the slots -/
def ERep (c : Cs) (F : Hp) (ρ : List Addr) (τ : L2.St) (σ : Env) : Prop := τ.length = σ.length ∧ ∀ (i : Nat) (w : W), σ[i]? = some (some w) → ∃ v, τ[i]? = some (some v) ∧ WRep c F ρ v w
theorem ERep.mono {c : Cs} {F F' : Hp} {ρ ρ' : List Addr} (s : Same F F') (p : ρ <+: ρ') {τ : L2.St} {σ : Env} (h : ERep c F ρ τ σ) : ERep c F' ρ' τ σ := ⟨h.1, fun i w e => by
  obtain ⟨v, e1, r⟩ := h.2 i w e
  exact ⟨v, e1, r.mono s p⟩⟩
theorem ERep.set {c : Cs} {F : Hp} {ρ : List Addr} {τ : L2.St} {σ : Env} (h : ERep c F ρ τ σ) {v : V} {w : W} (hw : WRep c F ρ v w) (i : Nat) : ERep c F ρ (τ.set i (some v)) (σ.set i (some w)) := by
  refine ⟨by rw [List.length_set, List.length_set, h.1], fun j w' e => ?_⟩
  by_cases hj : i = j
  · subst hj
    by_cases hl : i < σ.length
    · rw [List.getElem?_set_self hl] at e
      cases e
      exact ⟨v, by rw [List.getElem?_set_self (by rw [h.1]; exact hl)], hw⟩
    · rw [List.getElem?_eq_none (by rw [List.length_set]; omega)] at e
      cases e
  · rw [List.getElem?_set_ne hj] at e
    obtain ⟨u, e1, r⟩ := h.2 j w' e
    exact ⟨u, by rw [List.getElem?_set_ne hj]; exact e1, r⟩
theorem ERep.unset {c : Cs} {F : Hp} {ρ : List Addr} {τ : L2.St} {σ : Env} (h : ERep c F ρ τ σ) (i : Nat) : ERep c F ρ (τ.set i none) (σ.set i none) := by
  refine ⟨by rw [List.length_set, List.length_set, h.1], fun j w' e => ?_⟩
  by_cases hj : i = j
  · subst hj
    by_cases hl : i < σ.length
    · rw [List.getElem?_set_self hl] at e
      cases e
    · rw [List.getElem?_eq_none (by rw [List.length_set]; omega)] at e
      cases e
  · rw [List.getElem?_set_ne hj] at e
    obtain ⟨u, e1, r⟩ := h.2 j w' e
    exact ⟨u, by rw [List.getElem?_set_ne hj]; exact e1, r⟩
end Ev
set_option linter.all false
set_option maxHeartbeats 1000000
namespace Ev
open PySem L2

/-! ## What holds behind an outcome -/
/-- behind an outcome: what is asked of its value, store and heap -/
def Post {α : Type} (c : Cs) (F : Hp) (ρ : List Addr) (H : Hp) (X : Nat → List D → Store → Hp → Hp → List Addr → Prop) (o : Out α) (Φ : α → Store → Hp → Hp → List Addr → Prop) : Prop := match o with
  | .ok a S' => Φ a S' F H ρ
  | .exc n fs S' => X n fs S' F H ρ
  | .bad => False

/-- the state: slots, store, what is frozen -/
structure At (c : Cs) (σ : Env) (S : Store) (τ : L2.St) (F H : Hp) (ρ : List Addr) : Prop where
  env : ERep c F ρ τ σ
  st : SRep c F H ρ S

/-- an exception as the layer has it, read as class n with the fields fs -/
abbrev XW := Nat → List D → Store → L2.St → Hp → Hp → List Addr → Prop

/-- what an expression's reading is, where the evaluator gives o -/
def tE (c : Cs) (Xw : XW) (f : Env → Store → Out RV) : TE := fun τ H Q => ∃ σ S F ρ, At c σ S τ F H ρ ∧ match f σ S with
  | .ok rv S' => ∀ v F' H' ρ', Step F ρ H F' ρ' H' → SRep c F' H' ρ' S' → VRep c F' H' ρ' H v rv → Q v H'
  | .exc n fs S' => ∀ F' H' ρ', Step F ρ H F' ρ' H' → SRep c F' H' ρ' S' → Xw n fs S' τ F' H' ρ'
  | .bad => False
def tT (c : Cs) (Xw : XW) (f : Env → Store → Out Bool) : TT := fun τ H Q => ∃ σ S F ρ, At c σ S τ F H ρ ∧ match f σ S with
  | .ok b S' => ∀ F' H' ρ', Step F ρ H F' ρ' H' → SRep c F' H' ρ' S' → Q b H'
  | .exc n fs S' => ∀ F' H' ρ', Step F ρ H F' ρ' H' → SRep c F' H' ρ' S' → Xw n fs S' τ F' H' ρ'
  | .bad => False

/-- the demand behind an outcome of an expression -/
def QE (c : Cs) (Xw : XW) (τ : L2.St) (F : Hp) (ρ : List Addr) (H : Hp) (o : Out RV) (Φ : RV → Store → V → Hp → Hp → List Addr → Prop) : Prop := match o with
  | .ok rv S' => ∀ v F' H' ρ', Step F ρ H F' ρ' H' → SRep c F' H' ρ' S' → VRep c F' H' ρ' H v rv → Φ rv S' v F' H' ρ'
  | .exc n fs S' => ∀ F' H' ρ', Step F ρ H F' ρ' H' → SRep c F' H' ρ' S' → Xw n fs S' τ F' H' ρ'
  | .bad => False
section
variable {c : Cs} {Xw : XW} {τ : L2.St} {F H : Hp} {ρ : List Addr}
theorem QE.imp {o : Out RV} {Φ Ψ : RV → Store → V → Hp → Hp → List Addr → Prop} (h : QE c Xw τ F ρ H o Φ) (k : ∀ rv S' v F' H' ρ', Step F ρ H F' ρ' H' → SRep c F' H' ρ' S' → VRep c F' H' ρ' H v rv → Φ rv S' v F' H' ρ' → Ψ rv S' v F' H' ρ') : QE c Xw τ F ρ H o Ψ := by
  cases o with
  | ok rv S' => exact fun v F' H' ρ' st sr vr => k _ _ _ _ _ _ st sr vr (h v F' H' ρ' st sr vr)
  | exc n fs S' => exact h
  | bad => exact h
/-- from one outcome to the next -/
theorem QE.bind {o : Out RV} {k : RV → Store → Out RV} {Φ : RV → Store → V → Hp → Hp → List Addr → Prop} (h : QE c Xw τ F ρ H (o.bind k) Φ) :
    QE c Xw τ F ρ H o fun rv S' v F' H' ρ' => QE c Xw τ F' ρ' H' (k rv S') fun ru S2 u F2 H2 ρ2 => (VRep c F2 H2 ρ2 H u ru → Φ ru S2 u F2 H2 ρ2) := by
  cases o with
  | ok rv S' =>
    intro v F' H' ρ' st sr vr
    have h : QE c Xw τ F ρ H (k rv S') Φ := h
    show QE c Xw τ F' ρ' H' (k rv S') _
    cases hk : k rv S' with
    | ok ru S2 =>
      rw [hk] at h
      exact fun u F2 H2 ρ2 st2 sr2 vr2 vr3 => h u F2 H2 ρ2 (st.trans st2) sr2 vr3
    | exc n fs S2 =>
      rw [hk] at h
      exact fun F2 H2 ρ2 st2 sr2 => h F2 H2 ρ2 (st.trans st2) sr2
    | bad =>
      rw [hk] at h
      exact h
  | exc n fs S' => exact h
  | bad => exact h
theorem Step.back {F' H' : Hp} {ρ' : List Addr} (st : Step F ρ H F' ρ' H') : ∀ q, H' q = none → H q = none := fun q h => none_of_dom st.dom h
theorem At.step {σ : Env} {S S' : Store} {F' H' : Hp} {ρ' : List Addr} (a : At c σ S τ F H ρ) (st : Step F ρ H F' ρ' H') (sr : SRep c F' H' ρ' S') : At c σ S' τ F' H' ρ' :=
  ⟨a.env.mono st.frz st.pre, sr⟩
/-- the reading where σ and S are known -/
theorem tE_of {f : Env → Store → Out RV} {σ : Env} {S : Store} {Q : VK} (a : At c σ S τ F H ρ) (h : QE c Xw τ F ρ H (f σ S) fun _ _ v _ H' _ => Q v H') : tE c Xw f τ H Q := ⟨σ, S, F, ρ, a, h⟩
theorem QE_of {f : Env → Store → Out RV} {Q : VK} (h : tE c Xw f τ H Q) : ∃ σ S F ρ, At c σ S τ F H ρ ∧ QE c Xw τ F ρ H (f σ S) fun _ _ v _ H' _ => Q v H' := h
end
end Ev
set_option linter.all false
set_option maxHeartbeats 1000000
namespace Ev
open PySem L2

/-! ## Steps -/
section
variable {c : Cs} {F H : Hp} {ρ : List Addr} {S : Store} {p : Addr} {o : HO}
theorem fresh_F (sr : SRep c F H ρ S) (hp : H p = none) : F p = none := by
  cases e : F p with
  | none => rfl
  | some u =>
    rw [sr.sub p u e] at hp
    cases hp
theorem CRep.keep {F' H' : Hp} {ρ' : List Addr} {a : Addr} {cc : Cell} (h : CRep c F H ρ a cc) (s : Same F F') (pr : ρ <+: ρ') (k : ∀ o, H a = some o → H' a = some o) : CRep c F' H' ρ' a cc := by
  cases cc with
  | lst ws =>
    obtain ⟨vs, e, r⟩ := h
    exact ⟨vs, k _ e, WReps.mono s pr r⟩
  | dct t ks xs =>
    obtain ⟨vs, e, r⟩ := h
    exact ⟨vs, dct_keep e k, r.mono s⟩
  | ins n fs =>
    obtain ⟨dx, vs, e, r⟩ := h
    exact ⟨dx, vs, k _ e, r.mono s pr⟩
theorem CRep.some {a : Addr} {cc : Cell} (h : CRep c F H ρ a cc) : ∃ o, H a = some o := by
  cases cc with
  | lst ws => exact ⟨_, h.choose_spec.1⟩
  | dct t ks xs => exact dct_some h.choose_spec.1
  | ins n fs =>
    obtain ⟨dx, vs, e, r⟩ := h
    exact ⟨_, e⟩
theorem SRep.there (sr : SRep c F H ρ S) {a : Addr} (h : a ∈ ρ) : ∃ o, H a = some o := by
  obtain ⟨n, hn⟩ := List.getElem?_of_mem h
  have hl : n < S.length := by
    rw [← sr.len]
    exact (List.getElem?_eq_some_iff.mp hn).1
  exact (sr.cell n S[n] a (List.getElem?_eq_getElem hl) hn).some
theorem SRep.fresh (sr : SRep c F H ρ S) (hp : H p = none) : p ∉ ρ := fun h => by
  obtain ⟨o, e⟩ := sr.there h
  rw [hp] at e
  cases e
/-- the store stays where its cells are not touched -/
theorem SRep.on {F' H' : Hp} (sr : SRep c F H ρ S) (s : Same F F') (sub : Same F' H') (nf : ∀ a ∈ ρ, F' a = none) (k : ∀ a ∈ ρ, ∀ o, H a = some o → H' a = some o) : SRep c F' H' ρ S :=
  ⟨sub, sr.len, sr.nd, nf, fun n cc a h1 h2 => (sr.cell n cc a h1 h2).keep s (List.prefix_refl _) (k a (List.mem_of_getElem? h2))⟩
theorem same_upd (hp : F p = none) : Same F (upd F p o) := fun b u e => by
  rw [upd_ne (ne_of_none e hp)]
  exact e
/-- a new object that never changes -/
theorem new_frz (sr : SRep c F H ρ S) (hp : H p = none) : Step F ρ H (upd F p o) ρ (upd H p o) ∧ SRep c (upd F p o) (upd H p o) ρ S := by
  have hf := fresh_F sr hp
  have hr := sr.fresh hp
  refine ⟨⟨same_upd hf, List.prefix_refl _, fun q u h => ?_, fun _ h => .inl h, fun q u h _ => ?_, fun q u h => ⟨u, ?_⟩⟩, sr.on (same_upd hf) (fun b u h => ?_) (fun a ha => ?_) fun a ha u h => ?_⟩
  · by_cases e : q = p
    · exact .inr (by rw [e]; exact hp)
    · rw [upd_ne e] at h
      exact .inl h
  · rw [upd_ne (ne_of_none h hp)]; exact h
  · rw [upd_ne (ne_of_none h hp)]; exact h
  · by_cases e : b = p
    · subst e
      rw [upd_same] at h ⊢
      exact h
    · rw [upd_ne e] at h ⊢
      exact sr.sub b u h
  · rw [upd_ne (show a ≠ p from fun e => hr (by rw [← e]; exact ha))]
    exact sr.nf a ha
  · rw [upd_ne (ne_of_none h hp)]; exact h
/-- a new object -/
theorem new_own (sr : SRep c F H ρ S) (hp : H p = none) : Step F ρ H F ρ (upd H p o) ∧ SRep c F (upd H p o) ρ S := by
  refine ⟨⟨Same.refl F, List.prefix_refl _, fun q u h => .inl h, fun _ h => .inl h, fun q u h _ => ?_, fun q u h => ⟨u, ?_⟩⟩, sr.on (Same.refl F) (fun b u h => ?_) sr.nf fun a ha u h => ?_⟩
  · rw [upd_ne (ne_of_none h hp)]; exact h
  · rw [upd_ne (ne_of_none h hp)]; exact h
  · rw [upd_ne (ne_of_none (sr.sub b u h) hp)]; exact sr.sub b u h
  · rw [upd_ne (ne_of_none h hp)]; exact h
/-- a new list or dict is frozen: it was not there ahead -/
theorem frz_own {u : HO} (sr : SRep c F H ρ S) (ha : H p = some u) (hf : F p = none) (hr : p ∉ ρ) {H₀ F₀ : Hp} {ρ₀ : List Addr} (st : Step F₀ ρ₀ H₀ F ρ H) (h0 : H₀ p = none) :
    Step F₀ ρ₀ H₀ (upd F p u) ρ H ∧ SRep c (upd F p u) H ρ S := by
  refine ⟨⟨st.frz.trans (same_upd hf), st.pre, fun q v h => ?_, st.newR, st.keep, st.dom⟩, sr.on (same_upd hf) (fun b v h => ?_) (fun a h => ?_) fun _ _ _ h => h⟩
  · by_cases e : q = p
    · exact .inr (e ▸ h0)
    · rw [upd_ne e] at h
      exact st.newF q v h
  · by_cases e : b = p
    · subst e
      rw [upd_same] at h
      cases h
      exact ha
    · rw [upd_ne e] at h
      exact sr.sub b v h
  · rw [upd_ne (show a ≠ p from fun e => hr (by rw [← e]; exact h))]
    exact sr.nf a h
end

/-! ## What a value is just now -/
def TRep (c : Cs) (F H : Hp) (v : V) : D → Prop
  | .lst xs => ∃ a vs, v = .ref a ∧ H a = some (.lst vs) ∧ Reps c F vs xs
  | .dct t ks xs => ∃ a vs, v = .ref a ∧ DctAt H a t ks vs ∧ Reps c F vs xs
  | x => Rep c F v x
theorem Rep.top {c : Cs} {F H : Hp} {v : V} {x : D} (s : Same F H) (h : Rep c F v x) : TRep c F H v x := by
  cases h with
  | lst a r => exact ⟨_, _, rfl, s _ _ a, r⟩
  | dct a r => exact ⟨_, _, rfl, dct_mono a s, r⟩
  | non => exact .non
  | bl b => exact .bl b
  | int i => exact .int i
  | str z => exact .str z
  | tup a r => exact .tup a r
  | ktup a z r => exact .ktup a z r
  | ins a l r => exact .ins a l r
theorem toDs_reps {c : Cs} {F : Hp} {ρ : List Addr} : ∀ {vs : List V} {ws : List W} {xs : List D}, WReps c F ρ vs ws → toDs ws = some xs → Reps c F vs xs
  | _, _, xs, .nil, e => by
    cases e
    exact .nil
  | _, _, xs, .cons (b := w) r t, e => by
    unfold toDs at e
    cases r with
    | d h =>
      cases q : toDs _ with
      | none =>
        rw [q] at e
        cases e
      | some ys =>
        rw [q] at e
        cases e
        exact .cons h (toDs_reps t q)
    | ref z => cases e
theorem view_rep {c : Cs} {F H : Hp} {ρ : List Addr} {S : Store} {H₀ : Hp} (sr : SRep c F H ρ S) {v : V} {rv : RV} (h : VRep c F H ρ H₀ v rv) {x : D} (e : view S rv = some x) : TRep c F H v x := by
  cases rv with
  | own xs =>
    cases e
    obtain ⟨a, vs, e1, ha, _, _, _, r⟩ := h
    exact ⟨a, vs, e1, ha, r⟩
  | ownd t ks xs =>
    cases e
    obtain ⟨a, vs, e1, ha, _, _, _, r⟩ := h
    exact ⟨a, vs, e1, ha, r⟩
  | w w =>
    cases w with
    | d y =>
      cases e
      cases h with
      | d h => exact h.top sr.sub
    | ex n fs => cases e
    | ref n =>
      cases h with
      | ref hn =>
        unfold view at e
        dsimp only at e
        cases hs : S[n]? with
        | none =>
          rw [hs] at e
          cases e
        | some cc =>
          rw [hs] at e
          have hc := sr.cell n cc _ hs hn
          cases cc with
          | lst ws =>
            obtain ⟨vs, ha, r⟩ := hc
            dsimp only at e
            cases q : toDs ws with
            | none =>
              rw [q] at e
              cases e
            | some ys =>
              rw [q] at e
              cases e
              exact ⟨_, vs, rfl, ha, toDs_reps r q⟩
          | dct t ks xs =>
            cases e
            obtain ⟨vs, ha, r⟩ := hc
            exact ⟨_, vs, rfl, ha, r⟩
          | ins k fs => cases e
/-- as a slot's value: a new list or dict is frozen -/
theorem toW_rep {c : Cs} {F H : Hp} {ρ : List Addr} {S : Store} {H₀ F₀ : Hp} {ρ₀ : List Addr} (sr : SRep c F H ρ S) (st : Step F₀ ρ₀ H₀ F ρ H) {v : V} {rv : RV} (h : VRep c F H ρ H₀ v rv) :
    ∃ F', Same F F' ∧ Step F₀ ρ₀ H₀ F' ρ H ∧ SRep c F' H ρ S ∧ WRep c F' ρ v rv.toW := by
  cases rv with
  | w w => exact ⟨F, Same.refl F, st, sr, h⟩
  | own xs =>
    obtain ⟨a, vs, e1, ha, h0, hf, hr, r⟩ := h
    obtain ⟨s1, s2⟩ := frz_own sr ha hf hr st h0
    refine ⟨_, same_upd hf, s1, s2, ?_⟩
    rw [e1]
    exact .d (.lst upd_same (r.mono (same_upd hf)))
  | ownd t ks xs =>
    obtain ⟨a, vs, e1, ha, h0, hf, hr, r⟩ := h
    obtain ⟨o, ho⟩ := dct_some ha
    obtain ⟨s1, s2⟩ := frz_own sr ho hf hr st h0
    refine ⟨_, same_upd hf, s1, s2, ?_⟩
    rw [e1]
    refine .d (.dct ?_ (r.mono (same_upd hf)))
    refine dct_keep ha fun o' h' => ?_
    rw [ho] at h'
    cases h'
    exact upd_same
end Ev
set_option linter.all false
set_option maxHeartbeats 1000000
namespace Ev
open PySem L2

/-- what a context has to do with the text -/
structure XOk (c : Cs) (G : Gm) (fr : Fr) (X : Cx) : Prop where
  N : X.N = fr.N
  sc : X.env.scope = fr.sc
  K : X.K = c.K
  nd : X.N.Nodup
  calm : X.calm = true
  hu : X.A.units + 64 < cLine
  fnm : ∀ x, X.fn x = true ∨ X.env.scope.names.lookup x = some .local ∨ isLoc fr x = false
  glv : ∀ x d, G.names.lookup x = some (.val d) → ∃ v u, X.mg x = some u ∧ RelV v u ∧ Rep c (fun _ => none) v d
  bi : ∀ x, G.names.lookup x = none → x ≠ "__name__" → X.mg x = none

theorem idx_get : ∀ {N : List Str} {x : Str} {i : Nat}, idx N x = some i → N[i]? = some x
  | [], _, _, h => by cases h
  | y :: ys, x, i, h => by
    unfold idx at h
    by_cases e : y = x
    · rw [if_pos e] at h
      cases h
      subst e
      rfl
    · rw [if_neg e] at h
      cases q : idx ys x with
      | none =>
        rw [q] at h
        cases h
      | some j =>
        rw [q] at h
        cases h
        show (y :: ys)[j + 1]? = some x
        rw [List.getElem?_cons_succ]
        exact idx_get q
section
variable {c : Cs} {G : Gm} {fr : Fr} {X : Cx} {Xw : XW}
theorem isVar_vis (ok : XOk c G fr X) {x : Str} (h : isVar fr x = true) : Vis X.env.scope x ∧ (x == ("__debug__" : Str)) = false ∧ (x == ("__classdict__" : Str)) = false := by
  unfold isVar at h
  simp only [Bool.and_eq_true, decide_eq_true_eq] at h
  obtain ⟨⟨h1, h2⟩, h3⟩ := h
  refine ⟨?_, by simpa using h2, by simpa using h3⟩
  unfold Vis
  rw [ok.sc]
  split at h1
  · exact .inl (by assumption)
  · exact .inr (.inl (by assumption))
  · exact .inr (.inr (by assumption))
  · cases h1
theorem isLoc_loc (ok : XOk c G fr X) {x : Str} (h : isLoc fr x = true) : L2.Loc X.env.scope x := by
  unfold isLoc at h
  simp only [Bool.and_eq_true, decide_eq_true_eq] at h
  obtain ⟨⟨⟨h1, h2⟩, h3⟩, h4⟩ := h
  unfold L2.Loc
  rw [ok.sc]
  split at h1
  · exact .inl (by assumption)
  · exact .inr (by assumption)
  · cases h1
theorem isGl_gl (ok : XOk c G fr X) {x : Str} (h : isGl fr x = true) : Gl X x ∧ (x == ("__debug__" : Str)) = false := by
  unfold isGl at h
  simp only [Bool.and_eq_true, decide_eq_true_eq] at h
  refine ⟨?_, by simpa using h.2⟩
  show X.env.scope.names.lookup x = _
  rw [ok.sc]
  exact h.1

theorem je_bad {e : Expr} : PE X e (tE c Xw fun _ _ => .bad) := ⟨fun pins s τ H Q I h => by
  obtain ⟨σ, S, F, ρ, a, q⟩ := h
  exact q.elim⟩
theorem je_imp {e : Expr} {t t' : TE} (h : PE X e t) (i : ∀ τ H Q, t' τ H Q → t τ H Q) : PE X e t' := ⟨fun pins s τ H Q I q => h.run pins s τ H Q I (i τ H Q q)⟩
theorem pt_imp {e : Expr} {t t' : TT} (h : PT X e t) (i : ∀ τ H Q, t' τ H Q → t τ H Q) : PT X e t' := ⟨fun pins s τ H Q I q => h.run pins s τ H Q I (i τ H Q q)⟩
theorem je_eq {e : Expr} {f g : Env → Store → Out RV} (h : PE X e (tE c Xw f)) (i : ∀ σ S, g σ S = f σ S) : PE X e (tE c Xw g) := by
  have : g = f := funext fun σ => funext fun S => i σ S
  rw [this]
  exact h
/-- a value that needs no step -/
theorem at_once {τ : L2.St} {F H : Hp} {ρ : List Addr} {S : Store} {rv : RV} {Φ : RV → Store → V → Hp → Hp → List Addr → Prop} (sr : SRep c F H ρ S) (h : QE c Xw τ F ρ H (.ok rv S) Φ) {v : V} (r : VRep c F H ρ H v rv) : Φ rv S v F H ρ :=
  h v F H ρ (Step.refl _ _ _) sr r

def constD : Const → Option D
  | .none => some .non | .bool b => some (.bl b) | .int i => some (.int i) | .str s => some (.str s) | _ => none
def opt (o : Option RV) (S : Store) : Out RV := match o with
  | some v => .ok v S
  | none => .bad
theorem je_const {k : Const} {j : Nat} {pos : Pos} : PE X (.Constant k j pos) (tE c Xw fun _ S => opt ((constD k).map .d) S) := by
  have key : ∀ (v : V) (x : D), constD k = some x → (∀ F, Rep c F v x) → (∀ pins s τ H Q, Inv X pins τ H s → Q v H → wpAny (model X.prog X.w) X.A (eval (.Constant k j pos) X.env) (EP X pins τ Q) X.xe s) → PE X (.Constant k j pos) (tE c Xw fun _ S => opt ((constD k).map .d) S) := by
    intro v x e r h
    refine ⟨fun pins s τ H Q I q => h pins s τ H Q I ?_⟩
    obtain ⟨σ, S, F, ρ, a, q⟩ := q
    rw [e] at q
    exact at_once (Xw := Xw) (τ := τ) (Φ := fun _ _ v _ H' _ => Q v H') a.st q (.d (r F))
  cases k with
  | none => exact key .non .non rfl (fun _ => .non) fun pins s τ H Q I h => pe_non.run pins s τ H Q I h
  | bool b => exact key (.bl b) (.bl b) rfl (fun _ => .bl b) fun pins s τ H Q I h => pe_bl.run pins s τ H Q I h
  | int i => exact key (.int i) (.int i) rfl (fun _ => .int i) fun pins s τ H Q I h => pe_int.run pins s τ H Q I h
  | str z => exact key (.str z) (.str z) rfl (fun _ => .str z) fun pins s τ H Q I h => pe_str.run pins s τ H Q I h
  | _ => exact je_bad
theorem je_var (ok : XOk c G fr X) {x : Str} {pos : Pos} (hv : isVar fr x = true) {i : Nat} (hi : idx fr.N x = some i) :
    PE X (.Name x pos) (tE c Xw fun σ S => match σ[i]? with | some (some w) => .ok (.w w) S | _ => .bad) := by
  obtain ⟨h1, h2, h3⟩ := isVar_vis ok hv
  refine je_imp (pe_var (i := i) (by rw [ok.N]; exact idx_get hi) h1 h2 h3) fun τ H Q h => ?_
  obtain ⟨σ, S, F, ρ, a, q⟩ := QE_of h
  split at q
  · rename_i w hw
    obtain ⟨v, e, r⟩ := a.env.2 i w hw
    exact ⟨v, e, q v F H ρ (Step.refl _ _ _) a.st r⟩
  · exact q.elim
theorem same_none (F : Hp) : Same (fun _ => none) F := fun _ _ h => by cases h
theorem je_glob (ok : XOk c G fr X) {x : Str} {pos : Pos} (hv : isGl fr x = true) {d : D} (hi : G.names.lookup x = some (.val d)) :
    PE X (.Name x pos) (tE c Xw fun _ S => .ok (.d d) S) := by
  obtain ⟨h1, h2⟩ := isGl_gl ok hv
  obtain ⟨v, u, hm, r, rep⟩ := ok.glv x d hi
  refine je_imp (pe_glob h1 hm r h2) fun τ H Q h => ?_
  obtain ⟨σ, S, F, ρ, a, q⟩ := h
  exact q v F H ρ (Step.refl _ _ _) a.st (.d (rep.mono (same_none F)))

/-! ### two-place operations -/
theorem opR_never {f : Value → Value → Sem Value} : OpR X f (fun _ _ _ _ => False) := fun _ _ _ _ _ _ _ _ _ _ _ _ h => h.elim
theorem opR_or {f : Value → Value → Sem Value} {r r' : R2} (h : OpR X f r) (h' : OpR X f r') : OpR X f (fun x y H Q => r x y H Q ∨ r' x y H Q) := fun pins s σ H x y v u Q I rx ry q => by
  rcases q with q | q
  · exact h pins s σ H x y v u Q I rx ry q
  · exact h' pins s σ H x y v u Q I rx ry q
/-- an operation on data is served -/
def Serves (c : Cs) (r : R2) (o : D → D → Option RV) : Prop := ∀ (F H : Hp) (ρ : List Addr) (S : Store) (v u : V) (x y : D) (rv : RV) (Q : VK), SRep c F H ρ S → TRep c F H v x → TRep c F H u y → o x y = some rv →
  (∀ w F' H' ρ', Step F ρ H F' ρ' H' → SRep c F' H' ρ' S → VRep c F' H' ρ' H w rv → Q w H') → r v u H Q
theorem op2_read {r : R2} {o : D → D → Option RV} {fa fb : Env → Store → Out RV} (hs : Serves c r o) (τ : L2.St) (H : Hp) (Q : VK) (h : tE c Xw (fun σ S => (fa σ S).bind fun v S1 => (fb σ S1).bind fun u S2 => match view S2 v, view S2 u with
      | some x, some y => opt (o x y) S2
      | _, _ => .bad) τ H Q) : tOp r (tE c Xw fa) (tE c Xw fb) τ H Q := by
  obtain ⟨σ, S, F, ρ, a, q⟩ := h
  refine tE_of a (QE.imp (QE.bind (Xw := Xw) q) fun rv S1 v F1 H1 ρ1 st sr vr q1 => ?_)
  refine tE_of (a.step st sr) (QE.imp (QE.bind q1) fun ru S2 u F2 H2 ρ2 st2 sr2 vr2 q2 => ?_)
  have vr1 := vr.mono st2
  split at q2
  · rename_i x y hx hy
    cases ho : o x y with
    | none =>
      rw [ho] at q2
      exact q2.elim
    | some rz =>
      rw [ho] at q2
      refine hs F2 H2 ρ2 S2 v u x y rz Q sr2 (view_rep sr2 vr1 hx) (view_rep sr2 vr2 hy) ho fun w F3 H3 ρ3 st3 sr3 vr3 => ?_
      exact q2 w F3 H3 ρ3 st3 sr3 vr3 (vr3.back st2.back) ((vr3.back st2.back).back st.back)
  · exact q2.elim

theorem je_op2 {r : R2} {o : D → D → Option RV} {e a b : Expr} {fa fb : Env → Store → Out RV} (hs : Serves c r o) (he : PE X a (tE c Xw fa) → PE X b (tE c Xw fb) → PE X e (tOp r (tE c Xw fa) (tE c Xw fb)))
    (ha : PE X a (tE c Xw fa)) (hb : PE X b (tE c Xw fb)) :
    PE X e (tE c Xw fun σ S => (fa σ S).bind fun v S1 => (fb σ S1).bind fun u S2 => match view S2 v, view S2 u with
      | some x, some y => opt (o x y) S2
      | _, _ => .bad) := je_imp (he ha hb) (op2_read hs)

theorem new_list {F H : Hp} {ρ : List Addr} {S : Store} (sr : SRep c F H ρ S) {vs : List V} {xs : List D} (r : Reps c F vs xs) {Q : VK}
    (h : ∀ w F' H' ρ', Step F ρ H F' ρ' H' → SRep c F' H' ρ' S → VRep c F' H' ρ' H w (.own xs) → Q w H') : ∀ p, H p = none → Q (.ref p) (upd H p (.lst vs)) := fun p hp => by
  obtain ⟨s1, s2⟩ := new_own (o := .lst vs) sr hp
  exact h _ _ _ _ s1 s2 ⟨p, vs, rfl, upd_same, hp, fresh_F sr hp, sr.fresh hp, r⟩
theorem new_tup {F H : Hp} {ρ : List Addr} {S : Store} (sr : SRep c F H ρ S) {vs : List V} {xs : List D} (r : Reps c F vs xs) {Q : VK}
    (h : ∀ w F' H' ρ', Step F ρ H F' ρ' H' → SRep c F' H' ρ' S → VRep c F' H' ρ' H w (.d (.tup xs)) → Q w H') : ∀ p, H p = none → Q (.ref p) (upd H p (.tup vs)) := fun p hp => by
  obtain ⟨s1, s2⟩ := new_frz (o := .tup vs) sr hp
  exact h _ _ _ _ s1 s2 (.d (.tup upd_same (r.mono (same_upd (fresh_F sr hp)))))
theorem line_eq : line = sizeLine := by rw [sizeLine_eq]; rfl
end
end Ev
set_option linter.all false
set_option maxHeartbeats 2000000
namespace Ev
open PySem L2

section
variable {c : Cs} {G : Gm} {fr : Fr} {X : Cx} {Xw : XW}

/-! ### + - * // % ** -/
def rB (K : PySem.W.Frag) : Operator → R2
  | .Add => fun x y H Q => rI0 (fun i j => .int (i + j)) x y H Q ∨ (∃ i k, x = .int i ∧ y = .bl k ∧ Q (.int (i + PyProof.Rows.b2i k)) H) ∨
      (∃ i j, x = .str i ∧ y = .str j ∧ i.length + j.length ≤ sizeLine ∧ Q (.str (i ++ j)) H) ∨ rCatA K x y H Q ∨ rCat x y H Q
  | .Sub => rI0 fun i j => .int (i - j)
  | .Mult => fun x y H Q => rI CMul (fun i j => .int (i * j)) x y H Q ∨ rRep x y H Q ∨ rRepT K x y H Q
  | .FloorDiv => rI CDiv fun i j => .int (i / j)
  | .Mod => rI (fun _ j => 0 < j) fun i j => .int (i % j)
  | .Pow => rI CPow fun i j => .int (i ^ j.toNat)
  | _ => fun _ _ _ _ => False
theorem opB (op : Operator) : OpR X (binaryOp op) (rB X.K op) := by
  cases op with
  | Add => exact opR_or op_add (opR_or op_add_ib (opR_or op_add_str (opR_or op_catA op_cat)))
  | Sub => exact op_sub
  | Mult => exact opR_or op_mul (opR_or op_rep op_repT)
  | FloorDiv => exact op_fdiv
  | Mod => exact op_mod
  | Pow => exact op_pow
  | _ => exact opR_never
theorem cmul_of {i j : Int} (h : bMul i j = true) : CMul i j := by
  unfold bMul at h
  simp only [Bool.or_eq_true, Bool.and_eq_true, decide_eq_true_eq] at h
  exact h
theorem cdiv_of {i j : Int} (h : bDv j = true) : CDiv i j := by
  unfold bDv at h
  simp only [Bool.and_eq_true, decide_eq_true_eq] at h
  exact h
theorem cpow_of {i j : Int} (h : bPow i j = true) : CPow i j := by
  unfold bPow at h
  simp only [Bool.and_eq_true, decide_eq_true_eq] at h
  exact ⟨h.1.1, h.1.2, h.2⟩
theorem rep_int {F H : Hp} {v : V} {i : Int} (h : TRep c F H v (.int i)) : v = .int i := by
  cases (show Rep c F v (.int i) from h)
  rfl
theorem rep_str {F H : Hp} {v : V} {i : Str} (h : TRep c F H v (.str i)) : v = .str i := by
  cases (show Rep c F v (.str i) from h)
  rfl
theorem rep_bl {F H : Hp} {v : V} {i : Bool} (h : TRep c F H v (.bl i)) : v = .bl i := by
  cases (show Rep c F v (.bl i) from h)
  rfl
theorem rep_non {F H : Hp} {v : V} (h : TRep c F H v .non) : v = .non := by
  cases (show Rep c F v .non from h)
  rfl
theorem rep_tup {F H : Hp} {v : V} {xs : List D} (h : TRep c F H v (.tup xs)) : ∃ a vs, v = .ref a ∧ F a = some (.tup vs) ∧ Reps c F vs xs := by
  cases (show Rep c F v (.tup xs) from h) with
  | tup a r => exact ⟨_, _, rfl, a, r⟩

theorem reps_rep {F : Hp} {vs : List V} {xs : List D} (r : Reps c F vs xs) : ∀ n : Nat, Reps c F (List.replicate n vs).flatten (List.replicate n xs).flatten
  | 0 => .nil
  | n + 1 => by
    rw [List.replicate_succ, List.replicate_succ, List.flatten_cons, List.flatten_cons]
    exact r.app (reps_rep r n)
theorem servesB (hK : X.K = c.K) (op : Operator) : Serves c (rB X.K op) (binD op) := by
  intro F H ρ S v u x y rv Q sr hx hy ho k
  have now : ∀ {w : V} {z : D}, rv = .d z → Rep c F w z → Q w H := fun {w z} e r => k w F H ρ (Step.refl _ _ _) sr (by rw [e]; exact .d r)
  unfold binD at ho
  split at ho
  · cases ho
    cases rep_int hx
    cases rep_int hy
    exact .inl ⟨_, _, rfl, rfl, now rfl (.int _)⟩
  · cases ho
    cases rep_int hx
    cases rep_bl hy
    exact .inr (.inl ⟨_, _, rfl, rfl, now rfl (.int _)⟩)
  · split at ho
    · rename_i hl
      cases ho
      cases rep_str hx
      cases rep_str hy
      exact .inr (.inr (.inl ⟨_, _, rfl, rfl, by rw [← line_eq]; exact hl, now rfl (.str _)⟩))
    · cases ho
  · split at ho
    · rename_i hl
      cases ho
      obtain ⟨a, vs, rfl, ha, ra⟩ := rep_tup hx
      obtain ⟨b, us, rfl, hb, rb⟩ := rep_tup hy
      have ha' : SqT X.K H a vs := SqT.of (sr.sub _ _ ha)
      have hb' : SqT X.K H b us := SqT.of (sr.sub _ _ hb)
      refine .inr (.inr (.inr (.inl ⟨a, b, vs, us, rfl, rfl, ha', hb', ?_, fun e => ?_, fun e1 e2 => ?_, fun _ _ => ?_⟩)))
      · rw [ra.length, rb.length, ← line_eq]
        exact hl
      · subst e
        cases ra
        exact now rfl (.tup hb rb)
      · subst e2
        cases rb
        exact now (z := .tup _) (by rw [List.append_nil]) (.tup ha ra)
      · exact new_tup sr (ra.app rb) k
    · cases ho
  · split at ho
    · rename_i hl
      cases ho
      obtain ⟨a, vs, rfl, ha, ra⟩ := hx
      obtain ⟨b, us, rfl, hb, rb⟩ := hy
      refine .inr (.inr (.inr (.inr ⟨a, b, vs, us, rfl, rfl, ha, hb, ?_, new_list sr (ra.app rb) k⟩)))
      rw [ra.length, rb.length, ← line_eq]
      exact hl
    · cases ho
  · cases ho
    cases rep_int hx
    cases rep_int hy
    exact ⟨_, _, rfl, rfl, now rfl (.int _)⟩
  · split at ho
    · rename_i hl
      cases ho
      cases rep_int hx
      cases rep_int hy
      exact .inl ⟨_, _, rfl, rfl, cmul_of hl, now rfl (.int _)⟩
    · cases ho
  · split at ho
    · rename_i hl
      cases ho
      obtain ⟨a, vs, rfl, ha, ra⟩ := hx
      cases rep_int hy
      refine .inr (.inl ⟨a, _, vs, rfl, rfl, ha, by omega, by omega, ?_, new_list sr (reps_rep ra _) k⟩)
      rw [ra.length, ← line_eq]
      exact hl.2.2
    · cases ho
  · split at ho
    · rename_i hl
      cases ho
      obtain ⟨a, vs, rfl, ha, ra⟩ := rep_tup hx
      cases rep_int hy
      refine .inr (.inr ⟨a, _, vs, rfl, rfl, SqT.of (sr.sub _ _ ha), ?_, hl.1, hl.2.1, by rw [ra.length]; exact hl.2.2.1, new_tup sr (reps_rep ra _) k⟩)
      intro e
      have := ra.length
      rw [e] at this
      exact hl.2.2.2 this.symm
    · cases ho
  · split at ho
    · rename_i hl
      cases ho
      cases rep_int hx
      cases rep_int hy
      exact ⟨_, _, rfl, rfl, cdiv_of hl, now rfl (.int _)⟩
    · cases ho
  · split at ho
    · rename_i hl
      cases ho
      cases rep_int hx
      cases rep_int hy
      exact ⟨_, _, rfl, rfl, hl, now rfl (.int _)⟩
    · cases ho
  · split at ho
    · rename_i hl
      cases ho
      cases rep_int hx
      cases rep_int hy
      exact ⟨_, _, rfl, rfl, cpow_of hl, now rfl (.int _)⟩
    · cases ho
  · cases ho
theorem je_bin (hK : X.K = c.K) {op : Operator} {a b : Expr} {pos : Pos} {fa fb : Env → Store → Out RV} (ha : PE X a (tE c Xw fa)) (hb : PE X b (tE c Xw fb)) :
    PE X (.BinOp a op b pos) (tE c Xw fun σ S => (fa σ S).bind fun v S1 => (fb σ S1).bind fun u S2 => match view S2 v, view S2 u with
      | some x, some y => opt (binD op x y) S2
      | _, _ => .bad) := je_op2 (servesB hK op) (fun h1 h2 => pe_op (opB op) h1 h2) ha hb
end
end Ev
set_option linter.all false
set_option maxHeartbeats 2000000
namespace Ev
open PySem L2

section
variable {c : Cs} {G : Gm} {fr : Fr} {X : Cx} {Xw : XW}

/-! ### data of the layer -/
mutual
theorem rep_dp {F H : Hp} (s : Same F H) : ∀ {v : V} {x : D}, Rep c F v x → x.toPy.canLay0 = true → Dp c.K H v x.toPy
  | _, _, .non, _ => .non
  | _, _, .bl b, _ => .bl b
  | _, _, .int i, _ => .int i
  | _, _, .str z, _ => .str z
  | _, _, .tup a r, h => .tup (SqT.of (s _ _ a)) (reps_dp s r (by simpa [D.toPy, PyData.canLay0] using h))
  | _, _, .ktup a _ r, h => .tup (a H) (reps_dp s r (by simpa [D.toPy, PyData.canLay0] using h))
  | _, _, .lst a r, h => .lst (SqL.of (s _ _ a)) (reps_dp s r (by simpa [D.toPy, PyData.canLay0] using h))
  | _, _, .dct _ _, h => by simp [D.toPy, PyData.canLay0] at h
  | _, _, .ins _ _ _, h => by simp [D.toPy, PyData.canLay0] at h
theorem reps_dp {F H : Hp} (s : Same F H) : ∀ {vs : List V} {xs : List D}, Reps c F vs xs → PyData.canLayAll0 (D.toPys xs) = true → DpAll c.K H vs (D.toPys xs)
  | _, _, .nil, _ => .nil
  | _, _, .cons h r, e => by
    simp only [D.toPys, PyData.canLayAll0, Bool.and_eq_true] at e
    exact .cons (rep_dp s h e.1) (reps_dp s r e.2)
end
theorem trep_dp {F H : Hp} (s : Same F H) {v : V} {x : D} (h : TRep c F H v x) (e : x.shaped = true) : Dp c.K H v x.toPy := by
  have e' := SeqAt.canLay_of_shaped e
  cases x with
  | lst xs =>
    obtain ⟨a, vs, rfl, ha, r⟩ := h
    exact .lst (SqL.of ha) (reps_dp s r (by simpa [D.toPy, PyData.canLay0] using e'))
  | dct t ks xs => simp [D.toPy, PyData.canLay0] at e'
  | _ => exact rep_dp s h e'
theorem flat_rep {F H : Hp} {v z : V} {x : D} (h : Rep c F v x) (e : x.flat = some z) : v = z ∧ flatV v = true := by
  cases h <;> (unfold D.flat at e; first | (cases e; done) | (cases e; exact ⟨rfl, rfl⟩))
theorem tflat_rep {F H : Hp} {v z : V} {x : D} (h : TRep c F H v x) (e : x.flat = some z) : v = z ∧ flatV v = true := by
  cases x with
  | lst xs => cases e
  | dct t ks xs => cases e
  | _ => exact flat_rep (H := H) h e
theorem flats_rep {F : Hp} : ∀ {vs zs : List V} {xs : List D}, Reps c F vs xs → flats xs = some zs → vs = zs ∧ vs.all flatV = true
  | _, _, _, .nil, e => by
    cases e
    exact ⟨rfl, rfl⟩
  | _, _, x :: xs, .cons h r, e => by
    unfold flats at e
    split at e
    · rename_i z zs h1 h2
      cases e
      obtain ⟨e1, e2⟩ := flat_rep (H := F) h h1
      obtain ⟨e3, e4⟩ := flats_rep r h2
      exact ⟨by rw [e1, e3], by rw [List.all_cons, e2, e4]; rfl⟩
    · cases e

/-! ### dicts -/
def rDGet : R2 := fun x y H Q => ∃ a v, x = .ref a ∧ DGet H a y (some v) ∧ Q v H
def rDIn (neg : Bool) : R2 := fun y x H Q => ∃ a o, x = .ref a ∧ DGet H a y o ∧ Q (.bl (if neg then !o.isSome else o.isSome)) H
theorem op_din (hu : X.A.units + 1 < cLine) : OpR X (compareOp .In) (rDIn false) := by
  intro pins s σ H y x iv u Q I ry rx h
  obtain ⟨a, o, rfl, g, q⟩ := h
  obtain rfl : u = Value.ref a := rx
  exact d_in hu I g ry fun s3 I3 => ⟨.bl o.isSome, H, I3, rfl, q⟩
theorem op_dnotin (hu : X.A.units + 1 < cLine) : OpR X (compareOp .NotIn) (rDIn true) := by
  intro pins s σ H y x iv u Q I ry rx h
  obtain ⟨a, o, rfl, g, q⟩ := h
  obtain rfl : u = Value.ref a := rx
  exact d_notIn hu I g ry fun s3 I3 => ⟨.bl (!o.isSome), H, I3, rfl, q⟩
theorem kvK_val {ks : List D} {vs : List V} {kv : List (Key × V)} (h : KvK ks vs kv) : ∀ {l : List Key}, keysK ks = some l → kv.map (·.1) = l := by
  induction h with
  | nil =>
    intro l e
    cases e
    rfl
  | cons hk _ ih =>
    intro l e
    unfold keysK at e
    rw [hk] at e
    split at e
    · rename_i z zs h1 h2
      cases e
      cases h1
      rw [List.map_cons, ih h2]
    · cases e
theorem kvT_val {ks : List D} {vs : List V} {kv : List (List Key × V)} (h : KvT ks vs kv) : ∀ {l : List (List Key)}, keysT ks = some l → kv.map (·.1) = l := by
  induction h with
  | nil =>
    intro l e
    cases e
    rfl
  | cons hk _ ih =>
    intro l e
    unfold keysT at e
    rw [hk] at e
    split at e
    · rename_i z zs h1 h2
      cases e
      cases h1
      rw [List.map_cons, ih h2]
    · cases e
/-- what is found, as data and as the layer has it -/
theorem find_val {κ : Type} [DecidableEq κ] {F : Hp} (k : κ) : ∀ {kv : List (κ × V)} {l : List κ} {xs : List D}, kv.map (·.1) = l → Reps c F (kv.map (·.2)) xs →
    (∀ x, findAt k l xs = some x → ∃ v, valV kv k = some v ∧ Rep c F v x) ∧ (findAt k l xs = none → valV kv k = none)
  | [], l, xs, e, r => by
    subst e
    cases r
    exact ⟨fun x h => (by cases h), fun _ => rfl⟩
  | p :: kv, l, xs, e, r => by
    subst e
    cases r with
    | @cons v x vs ys hv r =>
      by_cases hk : p.1 = k
      · have e1 : findAt k (List.map (·.1) (p :: kv)) (x :: ys) = some x := by
          show (if p.1 = k then some x else _) = _
          rw [if_pos hk]
        refine ⟨fun z h => ?_, fun h => ?_⟩
        · rw [e1] at h
          cases h
          exact ⟨p.2, valV_pos hk, hv⟩
        · rw [e1] at h
          cases h
      · have e1 : findAt k (List.map (·.1) (p :: kv)) (x :: ys) = findAt k (kv.map (·.1)) ys := by
          show (if p.1 = k then some x else _) = _
          rw [if_neg hk]
        rw [e1, valV_neg hk]
        exact find_val k rfl r
theorem kvK_snd {ks : List D} {vs : List V} {kv : List (Key × V)} (h : KvK ks vs kv) : kv.map (·.2) = vs := by
  induction h with
  | nil => rfl
  | cons _ _ ih => rw [List.map_cons, ih]
theorem kvT_snd {ks : List D} {vs : List V} {kv : List (List Key × V)} (h : KvT ks vs kv) : kv.map (·.2) = vs := by
  induction h with
  | nil => rfl
  | cons _ _ ih => rw [List.map_cons, ih]
theorem keyK_rep {F H : Hp} {v : V} {x : D} {k : Key} (h : TRep c F H v x) (e : x.keyK = some k) : v = kV k := by
  cases x with
  | int i =>
    cases e
    exact rep_int h
  | str z =>
    cases e
    exact rep_str h
  | _ => cases e
theorem keysK_reps {F : Hp} : ∀ {vs : List V} {xs : List D} {k : List Key}, Reps c F vs xs → keysK xs = some k → vs = k.map kV
  | _, _, _, .nil, e => by
    cases e
    rfl
  | _, _, _, .cons h r, e => by
    unfold keysK at e
    split at e
    · rename_i z zs h1 h2
      cases e
      rw [keyK_rep (F := F) (H := F) (h.top (Same.refl F)) h1, keysK_reps r h2, List.map_cons]
    · cases e
theorem keyT_rep {F H : Hp} {v : V} {x : D} {k : List Key} (s : Same F H) (h : TRep c F H v x) (e : x.keyT = some k) : ∃ a, v = .ref a ∧ H a = some (.tup (k.map kV)) ∧ F a = some (.tup (k.map kV)) := by
  cases x with
  | tup xs =>
    obtain ⟨a, vs, rfl, ha, r⟩ := rep_tup h
    have e2 := keysK_reps r e
    subst e2
    exact ⟨a, rfl, s _ _ ha, ha⟩
  | _ => cases e
/-- a look into a dict -/
theorem dget_of {F H : Hp} (s : Same F H) {u : V} {t : Bool} {ks vs : List D} {v : V} {x : D} {o : Option D} (hd : TRep c F H v (.dct t ks vs)) (hx : TRep c F H u x) (e : getD? t ks vs x = some o) :
    ∃ a, v = .ref a ∧ (∀ y, o = some y → ∃ z, DGet H a u (some z) ∧ Rep c F z y) ∧ (o = none → DGet H a u none) := by
  obtain ⟨a, us, rfl, ha, r⟩ := hd
  refine ⟨a, rfl, ?_⟩
  rcases ha with ⟨rfl, kv, k, ha⟩ | ⟨rfl, kv, k, ha⟩
  · have e' : (match x.keyK, keysK ks with
      | some k, some l => some (findAt k l vs)
      | _, _ => none) = some o := e
    split at e'
    · rename_i q l h1 h2
      have e3 := Option.some.inj e'
      have hu := keyK_rep hx h1
      subst hu
      rw [← kvK_snd k] at r
      obtain ⟨f1, f2⟩ := find_val q (kvK_val k h2) r
      refine ⟨fun y hy => ?_, fun hn => ?_⟩
      · obtain ⟨z, hz, rz⟩ := f1 y (e3.trans hy)
        exact ⟨z, by rw [← hz]; exact DGet.k ha, rz⟩
      · rw [← f2 (e3.trans hn)]
        exact DGet.k ha
    · cases e'
  · have e' : (match x.keyT, keysT ks with
      | some k, some l => some (findAt k l vs)
      | _, _ => none) = some o := e
    split at e'
    · rename_i q l h1 h2
      have e3 := Option.some.inj e'
      obtain ⟨b, rfl, hb, _⟩ := keyT_rep s hx h1
      rw [← kvT_snd k] at r
      obtain ⟨f1, f2⟩ := find_val q (kvT_val k h2) r
      refine ⟨fun y hy => ?_, fun hn => ?_⟩
      · obtain ⟨z, hz, rz⟩ := f1 y (e3.trans hy)
        exact ⟨z, by rw [← hz]; exact DGet.t ha hb, rz⟩
      · rw [← f2 (e3.trans hn)]
        exact DGet.t ha hb
    · cases e'

/-! ### comparisons -/
def rC (K : PySem.W.Frag) : CmpOp → R2
  | .Eq => rEqD K
  | .NotEq => rNeD K
  | .Lt => rI0 fun i j => .bl (decide (i < j))
  | .LtE => rI0 fun i j => .bl (decide (i ≤ j))
  | .Gt => rI0 fun i j => .bl (decide (j < i))
  | .GtE => rI0 fun i j => .bl (decide (j ≤ i))
  | .Is => fun x y H Q => y = .non ∧ Q (.bl (decide (x = .non))) H
  | .IsNot => fun x y H Q => y = .non ∧ Q (.bl (!decide (x = .non))) H
  | .In => fun x y H Q => (∃ i j, x = .str i ∧ y = .str j ∧ Q (.bl (!(Builtin.Str.occurrences j i 0 j.length 1).isEmpty)) H) ∨ rIn K false x y H Q ∨ rInD K x y H Q ∨ rDIn false x y H Q
  | .NotIn => fun x y H Q => (∃ i j, x = .str i ∧ y = .str j ∧ Q (.bl (!(!(Builtin.Str.occurrences j i 0 j.length 1).isEmpty))) H) ∨ rIn K true x y H Q ∨ rNotInD K x y H Q ∨ rDIn true x y H Q
theorem opC (hu : X.A.units + 65 < cLine) (op : CmpOp) : OpR X (compareOp op) (rC X.K op) := by
  have h1 : X.A.units + 1 < cLine := by omega
  have h2 : X.A.units + 64 < cLine := by omega
  cases op with
  | Eq => exact op_eqD h2
  | NotEq => exact op_neD h2
  | Lt => exact op_lt
  | LtE => exact op_le
  | Gt => exact op_gt
  | GtE => exact op_ge
  | Is => exact op_isN
  | IsNot => exact op_notN
  | In => exact opR_or op_in_str (opR_or op_in_seq (opR_or (op_inD hu) (op_din h1)))
  | NotIn => exact opR_or op_notIn_str (opR_or op_notIn_seq (opR_or (op_notInD hu) (op_dnotin h1)))
theorem nonV_of {F H : Hp} {v : V} {x : D} (h : TRep c F H v x) : decide (v = .non) = isNonD x := by
  cases x with
  | lst xs =>
    obtain ⟨a, vs, rfl, _⟩ := h
    rfl
  | dct t ks xs =>
    obtain ⟨a, vs, rfl, _⟩ := h
    rfl
  | _ => cases h <;> rfl
theorem inItems_ok (hK : X.K = c.K) {F H : Hp} {ρ : List Addr} {S : Store} (sr : SRep c F H ρ S) {v u : V} {x y : D} {ys : List D} {b neg : Bool} {Q : VK} (hx : TRep c F H v x) (hy : TRep c F H u y) (ey : y = .tup ys ∨ y = .lst ys ∨ y = .ktup ys) (e : inItems x ys = some b)
    (q : Q (.bl (if neg then !b else b)) H) : rIn X.K neg v u H Q := by
  unfold inItems at e
  split at e
  · rename_i z zs h1 h2
    obtain ⟨e1, f1⟩ := tflat_rep hx h1
    have key : ∃ p us, u = .ref p ∧ (SqL X.K H p us ∨ SqT X.K H p us) ∧ Reps c F us ys := by
      rcases ey with rfl | rfl | rfl
      · obtain ⟨p, us, h1, h2, h3⟩ := rep_tup hy
        exact ⟨p, us, h1, .inr (SqT.of (sr.sub _ _ h2)), h3⟩
      · obtain ⟨p, us, h1, h2, h3⟩ := hy
        exact ⟨p, us, h1, .inl (SqL.of h2), h3⟩
      · cases (show Rep c F u (.ktup ys) from hy) with
        | ktup a _ r => exact ⟨_, _, rfl, .inr (by rw [hK]; exact a H), r⟩
    obtain ⟨p, us, rfl, hs, r⟩ := key
    obtain ⟨e2, f2⟩ := flats_rep r h2
    refine ⟨p, us, rfl, hs, f1, f2, ?_⟩
    cases e
    rw [e1, e2]
    exact q
  · cases e
theorem servesC (hK : X.K = c.K) (op : CmpOp) : Serves c (rC X.K op) fun x y => (cmpD op x y).map fun b => .d (.bl b) := by
  intro F H ρ S v u x y rv Q sr hx hy ho k
  have ho : (cmpD op x y).map (fun b => RV.d (.bl b)) = some rv := ho
  cases hb : cmpD op x y with
  | none =>
    rw [hb] at ho
    cases ho
  | some b =>
    rw [hb] at ho
    cases ho
    have now : Q (.bl b) H := k _ F H ρ (Step.refl _ _ _) sr (.d (.bl b))
    clear k
    have hinD : ∀ {x : D} {ys : List D} {b : Bool} {v u : V}, TRep c F H v x → TRep c F H u (.lst ys) → inDeep x ys = some b → ∃ d ds, Dp X.K H v d ∧ Dp X.K H u (.list ds) ∧ SeqAt.shaped d = true ∧ SeqAt.shaped (.list ds) = true ∧ b = ds.any fun z => PyData.eqv z d := by
      intro x ys b v u hx hy e
      unfold inDeep at e
      split at e
      · rename_i hs
        rw [Bool.and_eq_true] at hs
        cases e
        refine ⟨_, _, ?_, ?_, hs.1, hs.2, rfl⟩
        · rw [hK]; exact trep_dp sr.sub hx hs.1
        · rw [hK]; exact trep_dp sr.sub hy hs.2
      · cases e
    have heq : ∀ {x y : D} {b : Bool} {v u : V}, TRep c F H v x → TRep c F H u y → eqD x y = some b → ∃ d e, Dp X.K H v d ∧ Dp X.K H u e ∧ SeqAt.shaped d = true ∧ SeqAt.shaped e = true ∧ b = PyData.eqv d e := by
      intro x y b v u hx hy e
      unfold eqD at e
      split at e
      · rename_i hs
        rw [Bool.and_eq_true] at hs
        cases e
        refine ⟨_, _, ?_, ?_, hs.1, hs.2, rfl⟩
        · rw [hK]; exact trep_dp sr.sub hx hs.1
        · rw [hK]; exact trep_dp sr.sub hy hs.2
      · cases e
    unfold cmpD at hb
    split at hb
    · obtain ⟨d, e, h1, h2, h3, h4, rfl⟩ := heq hx hy hb
      exact ⟨d, e, h1, h2, h3, h4, now⟩
    · cases hq : eqD x y with
      | none =>
        rw [hq] at hb
        cases hb
      | some b' =>
        rw [hq] at hb
        cases hb
        obtain ⟨d, e, h1, h2, h3, h4, rfl⟩ := heq hx hy hq
        exact ⟨d, e, h1, h2, h3, h4, now⟩
    · cases hb; cases rep_int hx; cases rep_int hy
      exact ⟨_, _, rfl, rfl, now⟩
    · cases hb; cases rep_int hx; cases rep_int hy
      exact ⟨_, _, rfl, rfl, now⟩
    · cases hb; cases rep_int hx; cases rep_int hy
      exact ⟨_, _, rfl, rfl, now⟩
    · cases hb; cases rep_int hx; cases rep_int hy
      exact ⟨_, _, rfl, rfl, now⟩
    · cases hb
      exact ⟨rep_non hy, by rw [nonV_of hx]; exact now⟩
    · cases hb
      exact ⟨rep_non hy, by rw [nonV_of hx]; exact now⟩
    · cases hb; cases rep_str hx; cases rep_str hy
      exact .inl ⟨_, _, rfl, rfl, now⟩
    · cases hb; cases rep_str hx; cases rep_str hy
      exact .inl ⟨_, _, rfl, rfl, now⟩
    · exact .inr (.inl (inItems_ok (neg := false) hK sr hx hy (.inl rfl) hb now))
    · cases hq : inItems x _ with
      | none =>
        rw [hq] at hb
        cases hb
      | some b' =>
        rw [hq] at hb
        cases hb
        exact .inr (.inl (inItems_ok (neg := true) hK sr hx hy (.inl rfl) hq now))
    · exact .inr (.inl (inItems_ok (neg := false) hK sr hx hy (.inr (.inr rfl)) hb now))
    · cases hq : inItems x _ with
      | none =>
        rw [hq] at hb
        cases hb
      | some b' =>
        rw [hq] at hb
        cases hb
        exact .inr (.inl (inItems_ok (neg := true) hK sr hx hy (.inr (.inr rfl)) hq now))
    · split at hb
      · rename_i b' hq
        cases hb
        exact .inr (.inl (inItems_ok (neg := false) hK sr hx hy (.inr (.inl rfl)) hq now))
      · obtain ⟨d, ds, h1, h2, h3, h4, rfl⟩ := hinD hx hy hb
        exact .inr (.inr (.inl ⟨d, ds, h1, h2, h3, h4, now⟩))
    · split at hb
      · rename_i b' hq
        cases hb
        exact .inr (.inl (inItems_ok (neg := true) hK sr hx hy (.inr (.inl rfl)) hq now))
      · cases hq : inDeep x _ with
        | none =>
          rw [hq] at hb
          cases hb
        | some b' =>
          rw [hq] at hb
          cases hb
          obtain ⟨d, ds, h1, h2, h3, h4, rfl⟩ := hinD hx hy hq
          exact .inr (.inr (.inl ⟨d, ds, h1, h2, h3, h4, now⟩))
    · cases hq : getD? _ _ _ x with
      | none =>
        rw [hq] at hb
        cases hb
      | some o =>
        rw [hq] at hb
        cases hb
        obtain ⟨a, rfl, g1, g2⟩ := dget_of sr.sub hy hx hq
        refine .inr (.inr (.inr ?_))
        cases o with
        | none => exact ⟨a, _, rfl, g2 rfl, now⟩
        | some z =>
          obtain ⟨w, h1, _⟩ := g1 z rfl
          exact ⟨a, _, rfl, h1, now⟩
    · cases hq : getD? _ _ _ x with
      | none =>
        rw [hq] at hb
        cases hb
      | some o =>
        rw [hq] at hb
        cases hb
        obtain ⟨a, rfl, g1, g2⟩ := dget_of sr.sub hy hx hq
        refine .inr (.inr (.inr ?_))
        cases o with
        | none => exact ⟨a, _, rfl, g2 rfl, now⟩
        | some z =>
          obtain ⟨w, h1, _⟩ := g1 z rfl
          exact ⟨a, _, rfl, h1, now⟩
    · cases hb
end
end Ev
set_option linter.all false
set_option maxHeartbeats 2000000
namespace Ev
open PySem L2

section
variable {c : Cs} {G : Gm} {fr : Fr} {X : Cx} {Xw : XW}

/-! ### comparisons as expressions -/
def cmpO (op : CmpOp) (S : Store) (v u : RV) : Option Bool := match view S v, view S u with
  | some x, some y => cmpD op x y
  | _, _ => none
def noSet : Expr → Bool
  | .Set .. => false | _ => true
theorem noSet_marks {e : Expr} (h : noSet e = true) (op : CmpOp) : behindInMarks op e = false := by
  cases e <;> first | rfl | cases h
def cmpF (op : CmpOp) (fa fb : Env → Store → Out RV) (σ : Env) (S : Store) : Out RV := (fa σ S).bind fun v S1 => (fb σ S1).bind fun u S2 => opt ((cmpO op S2 v u).map fun b => .d (.bl b)) S2
theorem cmp_read (hK : X.K = c.K) {op : CmpOp} {fa fb : Env → Store → Out RV} (τ : L2.St) (H : Hp) (Q : VK) (h : tE c Xw (cmpF op fa fb) τ H Q) : tOp (rC X.K op) (tE c Xw fa) (tE c Xw fb) τ H Q := by
  refine op2_read (servesC hK op) τ H Q ?_
  have e : cmpF op fa fb = fun σ S => (fa σ S).bind fun v S1 => (fb σ S1).bind fun u S2 => match view S2 v, view S2 u with
      | some x, some y => opt ((cmpD op x y).map fun b => .d (.bl b)) S2
      | _, _ => .bad := by
    funext σ S
    unfold cmpF
    congr 1
    funext v S1
    congr 1
    funext u S2
    unfold cmpO
    cases view S2 v with
    | none => rfl
    | some x =>
      cases view S2 u with
      | none => rfl
      | some y => rfl
  rw [e] at h
  exact h
theorem je_cmp (hK : X.K = c.K) (hu : X.A.units + 65 < cLine) {op : CmpOp} {a b : Expr} {pos : Pos} {fa fb : Env → Store → Out RV} (ha : PE X a (tE c Xw fa)) (hb : PE X b (tE c Xw fb)) (hn : noSet b = true) :
    PE X (.Compare a [op] [b] pos) (tE c Xw (cmpF op fa fb)) := je_imp (pe_cmpR (opC hu op) ha hb (noSet_marks hn op)) (cmp_read hK)
/-- a < b < c -/
def chainF (op op' : CmpOp) (fa fb fe : Env → Store → Out RV) (σ : Env) (S : Store) : Out RV := (fa σ S).bind fun v S1 => (fb σ S1).bind fun u S2 => match cmpO op S2 v u with
      | some true => (fe σ S2).bind fun z S3 => opt ((cmpO op' S3 u z).map fun b => .d (.bl b)) S3
      | some false => .ok (.d (.bl false)) S2
      | none => .bad
theorem chain_read (hK : X.K = c.K) {op op' : CmpOp} {fa fb fe : Env → Store → Out RV} (τ : L2.St) (H : Hp) (Q : VK) (h : tE c Xw (chainF op op' fa fb fe) τ H Q) : tChain (rC X.K op) (rC X.K op') (tE c Xw fa) (tE c Xw fb) (tE c Xw fe) τ H Q := by
  obtain ⟨σ, S, F, ρ, a, q⟩ := QE_of h
  refine tE_of a (QE.imp (QE.bind q) fun rv S1 v F1 H1 ρ1 st sr vr q1 => ?_)
  refine tE_of (a.step st sr) (QE.imp (QE.bind q1) fun ru S2 u F2 H2 ρ2 st2 sr2 vr2 q2 => ?_)
  have vr1 := vr.mono st2
  cases hb : cmpO op S2 rv ru with
  | none =>
    rw [hb] at q2
    exact q2.elim
  | some b =>
    rw [hb] at q2
    unfold cmpO at hb
    split at hb
    · rename_i x y hx hy
      have ho : (fun x y => (cmpD op x y).map fun b => RV.d (.bl b)) x y = some (.d (.bl b)) := by
        show (cmpD op x y).map _ = _
        rw [hb]
        rfl
      refine servesC hK op F2 H2 ρ2 S2 v u x y (.d (.bl b)) _ sr2 (view_rep sr2 vr1 hx) (view_rep sr2 vr2 hy) ho fun w F3 H3 ρ3 st3 sr3 vr3 => ?_
      cases vr3 with
      | d r =>
        cases r
        refine ⟨b, rfl, ?_⟩
        cases b with
        | false =>
          refine iteF ?_
          exact q2 _ F3 H3 ρ3 st3 sr3 (.d (.bl false)) (.d (.bl false)) (.d (.bl false))
        | true =>
          refine iteT ?_
          have q3 : QE c Xw τ F2 ρ2 H2 _ _ := q2
          have q4 := QE.bind q3
          -- from the state behind the first comparison
          refine ⟨σ, S2, F3, ρ3, (a.step st sr).step (st2.trans st3) sr3, ?_⟩
          cases hz : fe σ S2 with
          | bad =>
            rw [hz] at q4
            exact q4.elim
          | exc n fs S3 =>
            rw [hz] at q4
            exact fun F' H' ρ' st' sr' => q4 F' H' ρ' (st3.trans st') sr'
          | ok rz S3 =>
            rw [hz] at q4
            intro z F4 H4 ρ4 st4 sr4 vr4
            have q5 := q4 z F4 H4 ρ4 (st3.trans st4) sr4 (vr4.back st3.back)
            dsimp only at q5
            cases hc : cmpO op' S3 ru rz with
            | none =>
              rw [hc] at q5
              exact q5.elim
            | some b' =>
              rw [hc] at q5
              unfold cmpO at hc
              split at hc
              · rename_i x' y' hx' hy'
                have ho' : (fun x y => (cmpD op' x y).map fun b => RV.d (.bl b)) x' y' = some (.d (.bl b')) := by
                  show (cmpD op' x' y').map _ = _
                  rw [hc]
                  rfl
                refine servesC hK op' F4 H4 ρ4 S3 u z x' y' (.d (.bl b')) Q sr4 (view_rep sr4 (vr2.mono (st3.trans st4)) hx') (view_rep sr4 vr4 hy') ho' fun w5 F5 H5 ρ5 st5 sr5 vr5 => ?_
                have t5 : ∀ {h : Hp}, VRep c F5 H5 ρ5 h w5 (.d (.bl b')) := fun {h} => vr5
                exact q5 w5 F5 H5 ρ5 st5 sr5 t5 t5 t5 t5
              · cases hc
    · cases hb

theorem je_chain (hK : X.K = c.K) (hu : X.A.units + 65 < cLine) {op op' : CmpOp} {a b e : Expr} {pos : Pos} {fa fb fe : Env → Store → Out RV} (ha : PE X a (tE c Xw fa)) (hb : PE X b (tE c Xw fb)) (he : PE X e (tE c Xw fe)) (hn : noSet e = true) :
    PE X (.Compare a [op, op'] [b, e] pos) (tE c Xw (chainF op op' fa fb fe)) := je_imp (pe_chain (opC hu op) (opC hu op') ha hb he (by show behindInMarks op' e = false; exact noSet_marks hn op')) (chain_read hK)

/-! ### subscripts -/
def rS (K : PySem.W.Frag) : R2 := fun x y H Q => rIx K x y H Q ∨ rDGet x y H Q
theorem ix_dct (hu : X.A.units + 1 < cLine) : IxR X rDGet := by
  intro value slice pins s σ H x y v u Q I rx ry h hs
  obtain ⟨a, z, rfl, g, q⟩ := h
  obtain rfl : v = Value.ref a := rx
  exact PyProof.Rows.tail_any (dict_typeIs I g) PySem.F.slot_dict_getitem.lookup (d_getItem hu I g ry fun w' s3 I3 rw' => ⟨z, H, I3, rw', q⟩) hs
def noSlice : Expr → Bool
  | .Slice .. => false | _ => true
theorem noSlice_plain {e : Expr} (h : noSlice e = true) : PlainIx e := by
  cases e <;> first | (intro o i; rfl) | cases h
theorem atI_rep {F : Hp} {vs : List V} {xs : List D} {i : Int} {x : D} (r : Reps c F vs xs) (e : atD xs i = some x) : ∃ v, atI vs i = some v ∧ Rep c F v x := by
  unfold atD atI at e
  unfold atI
  rw [r.length]
  cases q : ixN xs.length i with
  | none =>
    rw [q] at e
    cases e
  | some j =>
    rw [q] at e
    exact r.get e
theorem servesS (hK : X.K = c.K) : Serves c (rS X.K) fun x y => (getD x y).map .d := by
  intro F H ρ S v u x y rv Q sr hx hy ho k
  have ho : (getD x y).map RV.d = some rv := ho
  cases hb : getD x y with
  | none =>
    rw [hb] at ho
    cases ho
  | some z =>
    rw [hb] at ho
    cases ho
    have now : ∀ {w : V}, Rep c F w z → Q w H := fun {w} r => k w F H ρ (Step.refl _ _ _) sr (.d r)
    unfold getD at hb
    split at hb
    · obtain ⟨a, vs, rfl, ha, r⟩ := hx
      cases rep_int hy
      obtain ⟨w, e, rw'⟩ := atI_rep r hb
      exact .inl (.inl ⟨a, vs, _, w, rfl, rfl, SqL.of ha, e, now rw'⟩)
    · obtain ⟨a, vs, rfl, ha, r⟩ := rep_tup hx
      cases rep_int hy
      obtain ⟨w, e, rw'⟩ := atI_rep r hb
      exact .inl (.inr (.inl ⟨a, vs, _, w, rfl, rfl, SqT.of (sr.sub _ _ ha), e, now rw'⟩))
    · split at hb
      · rename_i hl
        cases rep_str hx
        cases rep_int hy
        cases hc : atI _ _ with
        | none =>
          rw [hc] at hb
          cases hb
        | some ch =>
          rw [hc] at hb
          cases hb
          exact .inl (.inr (.inr ⟨_, _, ch, rfl, rfl, by rw [← line_eq]; exact hl, hc, now (.str _)⟩))
      · cases hb
    · cases hq : getD? _ _ _ y with
      | none =>
        rw [hq] at hb
        cases hb
      | some o =>
        rw [hq] at hb
        have ho2 : o = some z := hb
        obtain ⟨a, rfl, g1, _⟩ := dget_of sr.sub hx hy hq
        obtain ⟨w, h1, r1⟩ := g1 z ho2
        exact .inr ⟨a, w, rfl, h1, now r1⟩
    · cases hb
end
end Ev
set_option linter.all false
set_option maxHeartbeats 2000000
namespace Ev
open PySem L2

section
variable {c : Cs} {G : Gm} {fr : Fr} {X : Cx} {Xw : XW}

/-- an item of what stands there -/
def subRV (S : Store) (v u : RV) : Option RV := match v, u with
  | .w (.ref n), .w (.d (.int i)) => match S[n]? with
    | some (.lst ws) => (L2.atI ws i).map .w
    | some (.dct t ks vs) => (getD? t ks vs (.int i)).join.map .d
    | _ => none
  | v, u => match view S v, view S u with
    | some x, some y => (getD x y).map .d
    | _, _ => none
theorem atI_wrep {F : Hp} {ρ : List Addr} {vs : List V} {ws : List W} {i : Int} {w : W} (r : WReps c F ρ vs ws) (e : L2.atI ws i = some w) : ∃ v, atI vs i = some v ∧ WRep c F ρ v w := by
  unfold atI at e
  unfold atI
  rw [Paired.length r]
  cases q : ixN ws.length i with
  | none =>
    rw [q] at e
    cases e
  | some j =>
    rw [q] at e
    have e : ws[j]? = some w := e
    have key : ∀ {vs : List V} {ws : List W} {j : Nat}, WReps c F ρ vs ws → ws[j]? = some w → ∃ v, vs[j]? = some v ∧ WRep c F ρ v w := by
      intro vs ws j r
      induction r generalizing j with
      | nil =>
        intro e
        simp at e
      | cons h _ ih =>
        intro e
        cases j with
        | zero =>
          simp at e
          subst e
          exact ⟨_, rfl, h⟩
        | succ j =>
          obtain ⟨v, e1, r1⟩ := ih (by simpa using e)
          exact ⟨v, by simpa using e1, r1⟩
    exact key r e
theorem je_sub (hK : X.K = c.K) (hu : X.A.units + 1 < cLine) {a b : Expr} {pos : Pos} {fa fb : Env → Store → Out RV} (ha : PE X a (tE c Xw fa)) (hb : PE X b (tE c Xw fb)) (hn : noSlice b = true) :
    PE X (.Subscript a b pos) (tE c Xw fun σ S => (fa σ S).bind fun v S1 => (fb σ S1).bind fun u S2 => opt (subRV S2 v u) S2) := by
  refine je_imp (pe_ix (IxR.or ix_seq (ix_dct hu)) ha hb (noSlice_plain hn)) fun τ H Q h => ?_
  obtain ⟨σ, S, F, ρ, a, q⟩ := QE_of h
  refine tE_of a (QE.imp (QE.bind q) fun rv S1 v F1 H1 ρ1 st sr vr q1 => ?_)
  refine tE_of (a.step st sr) (QE.imp (QE.bind q1) fun ru S2 u F2 H2 ρ2 st2 sr2 vr2 q2 => ?_)
  have vr1 := vr.mono st2
  cases ho : subRV S2 rv ru with
  | none =>
    rw [ho] at q2
    exact q2.elim
  | some rz =>
    rw [ho] at q2
    have plain : ∀ {x y : D}, view S2 rv = some x → view S2 ru = some y → (getD x y).map RV.d = some rz → rS X.K v u H2 Q := fun {x y} hx hy e =>
      servesS hK F2 H2 ρ2 S2 v u x y rz Q sr2 (view_rep sr2 vr1 hx) (view_rep sr2 vr2 hy) e fun w F3 H3 ρ3 st3 sr3 vr3 => q2 w F3 H3 ρ3 st3 sr3 vr3 (vr3.back st2.back) ((vr3.back st2.back).back st.back)
    unfold subRV at ho
    split at ho
    · rename_i n i
      cases vr1 with
      | ref hn =>
        cases vr2 with
        | d r2 =>
          cases r2
          split at ho
          · rename_i ws hw
            obtain ⟨vs, hv, r⟩ := sr2.cell n _ _ hw hn
            cases hz : L2.atI ws i with
            | none =>
              rw [hz] at ho
              cases ho
            | some w =>
              rw [hz] at ho
              cases ho
              obtain ⟨z, hz1, rz⟩ := atI_wrep r hz
              exact .inl (.inl ⟨_, vs, _, z, rfl, rfl, SqL.of hv, hz1, q2 z F2 H2 ρ2 (Step.refl _ _ _) sr2 rz rz rz⟩)
          · rename_i t ks vs hw
            refine plain (x := .dct t ks vs) (y := .int i) ?_ rfl ho
            show (match S2[n]? with | some (Cell.lst xs) => _ | some (.dct t ks vs) => some (D.dct t ks vs) | _ => none) = _
            rw [hw]
          · cases ho
    · split at ho
      · rename_i x y hx hy
        exact plain hx hy ho
      · cases ho

/-! ### slices -/
theorem slR_or {r r' : V → Option Int → Option Int → Hp → VK → Prop} (h : SlR X r) (h' : SlR X r') : SlR X (fun x l u H Q => r x l u H Q ∨ r' x l u H Q) := by
  intro pins s σ H x v vl vu lo hi sl Q I rx hs pl pu q
  rcases q with q | q
  · exact h pins s σ H x v vl vu lo hi sl Q I rx hs pl pu q
  · exact h' pins s σ H x v vl vu lo hi sl Q I rx hs pl pu q
def rSl (K : PySem.W.Frag) : V → Option Int → Option Int → Hp → VK → Prop := fun x l u H Q => rSlA K x l u H Q ∨ rSlL K x l u H Q ∨ rSlS x l u H Q
theorem slR_all : SlR X (rSl X.K) := slR_or sl_tupA (slR_or sl_list sl_str)
theorem Reps.cut {F : Hp} {vs : List V} {xs : List D} (r : Reps c F vs xs) (lo hi : Option Int) : Reps c F (cutV vs lo hi) (cutD xs lo hi) := by
  unfold cutV cutD
  rw [r.length]
  exact (r.drop _).take _
theorem cutD_all {α : Type} (xs : List α) {lo hi : Option Int} (h1 : HT.sIx xs.length 0 lo = 0) (h2 : HT.sIx xs.length xs.length hi = xs.length) : cutD xs lo hi = xs := by
  unfold cutD
  rw [h1, h2, List.drop_zero, Nat.sub_zero, List.take_length]
theorem slice_ok {F H : Hp} {ρ : List Addr} {S : Store} (sr : SRep c F H ρ S) {v : V} {x : D} {lo hi : Option Int} {rv : RV} {Q : VK} (hx : TRep c F H v x) (e : sliceD x lo hi = some rv)
    (k : ∀ w F' H' ρ', Step F ρ H F' ρ' H' → SRep c F' H' ρ' S → VRep c F' H' ρ' H w rv → Q w H') : rSl X.K v lo hi H Q := by
  unfold sliceD at e
  split at e
  · cases e
    obtain ⟨a, vs, rfl, ha, r⟩ := rep_tup hx
    refine .inl ⟨a, vs, rfl, SqT.of (sr.sub _ _ ha), fun h => ?_, fun _ => new_tup sr (r.cut lo hi) k⟩
    refine k _ F H ρ (Step.refl _ _ _) sr (.d (.tup ha ?_))
    rw [cutD_all _ (by rw [← r.length]; exact h.1) (by rw [← r.length]; exact h.2)]
    exact r
  · cases e
    obtain ⟨a, vs, rfl, ha, r⟩ := hx
    exact .inr (.inl ⟨a, vs, rfl, SqL.of ha, new_list sr (r.cut lo hi) k⟩)
  · split at e
    · rename_i hl
      cases e
      cases rep_str hx
      exact .inr (.inr ⟨_, rfl, by rw [← line_eq]; exact hl, k _ F H ρ (Step.refl _ _ _) sr (.d (.str _))⟩)
    · cases e
  · cases e

/-- a part of a slice -/
def tO (c : Cs) (Xw : XW) (f : Env → Store → Out (Option Int)) : TO := fun τ H Q => ∃ σ S F ρ, At c σ S τ F H ρ ∧ match f σ S with
  | .ok o S' => ∀ F' H' ρ', Step F ρ H F' ρ' H' → SRep c F' H' ρ' S' → Q o H'
  | .exc n fs S' => ∀ F' H' ρ', Step F ρ H F' ρ' H' → SRep c F' H' ρ' S' → Xw n fs S' τ F' H' ρ'
  | .bad => False
def partI : RV → Option Int
  | .w (.d (.int i)) => some i
  | _ => none
theorem partI_rep {F H : Hp} {ρ : List Addr} {H₀ : Hp} {v : V} {rv : RV} {i : Int} (h : VRep c F H ρ H₀ v rv) (e : partI rv = some i) : v = .int i := by
  unfold partI at e
  split at e
  · cases e
    cases h with
    | d r =>
      cases r
      rfl
  · cases e
def partO (f : Env → Store → Out RV) (σ : Env) (S : Store) : Out (Option Int) := (f σ S).bind fun v S1 => match partI v with
  | some i => .ok (some i) S1
  | none => .bad
theorem jo_none : PO X none (tO c Xw fun _ S => .ok none S) := ⟨fun pins s τ H Q I h => po_none.run pins s τ H Q I (by
  obtain ⟨σ, S, F, ρ, a, q⟩ := h
  exact q F H ρ (Step.refl _ _ _) a.st)⟩
theorem jo_some {e : Expr} {f : Env → Store → Out RV} (h : PE X e (tE c Xw f)) : PO X (some e) (tO c Xw (partO f)) := ⟨fun pins s τ H Q I h' => (po_some h).run pins s τ H Q I (by
  obtain ⟨σ, S, F, ρ, a, q⟩ := h'
  refine ⟨σ, S, F, ρ, a, ?_⟩
  unfold partO at q
  cases hf : f σ S with
  | bad =>
    rw [hf] at q
    exact q.elim
  | exc n fs S' =>
    rw [hf] at q
    exact q
  | ok rv S' =>
    rw [hf] at q
    intro v F' H' ρ' st sr vr
    cases hp : partI rv with
    | none =>
      rw [show (Out.ok rv S').bind (fun v S1 => match partI v with | some i => Out.ok (some i) S1 | none => .bad) = .bad by show (match partI rv with | some i => Out.ok (some i) S' | none => .bad) = _; rw [hp]] at q
      exact q.elim
    | some i =>
      rw [show (Out.ok rv S').bind (fun v S1 => match partI v with | some i => Out.ok (some i) S1 | none => .bad) = .ok (some i) S' by show (match partI rv with | some i => Out.ok (some i) S' | none => .bad) = _; rw [hp]] at q
      exact ⟨i, partI_rep vr hp, q F' H' ρ' st sr⟩)⟩
theorem je_slice {a : Expr} {lo hi : Option Expr} {p2 pos : Pos} {fa : Env → Store → Out RV} {fl fh : Env → Store → Out (Option Int)} (ha : PE X a (tE c Xw fa)) (hl : PO X lo (tO c Xw fl)) (hh : PO X hi (tO c Xw fh)) :
    PE X (.Subscript a (.Slice lo hi none p2) pos) (tE c Xw fun σ S => (fa σ S).bind fun v S1 => match fl σ S1 with
      | .ok l S2 => match fh σ S2 with
        | .ok u S3 => opt ((view S3 v).bind fun x => sliceD x l u) S3
        | .exc n fs S3 => .exc n fs S3
        | .bad => .bad
      | .exc n fs S2 => .exc n fs S2
      | .bad => .bad) := by
  refine je_imp (pe_slice slR_all ha hl hh) fun τ H Q h => ?_
  obtain ⟨σ, S, F, ρ, a, q⟩ := QE_of h
  refine tE_of a (QE.imp (QE.bind q) fun rv S1 v F1 H1 ρ1 st sr vr q1 => ?_)
  refine ⟨σ, S1, F1, ρ1, a.step st sr, ?_⟩
  cases h1 : fl σ S1 with
  | bad =>
    rw [h1] at q1
    exact q1.elim
  | exc n fs S2 =>
    rw [h1] at q1
    exact q1
  | ok l S2 =>
    rw [h1] at q1
    intro F2 H2 ρ2 st2 sr2
    refine ⟨σ, S2, F2, ρ2, (a.step st sr).step st2 sr2, ?_⟩
    dsimp only at q1
    cases h2 : fh σ S2 with
    | bad =>
      rw [h2] at q1
      exact q1.elim
    | exc n fs S3 =>
      rw [h2] at q1
      exact fun F' H' ρ' st' sr' => q1 F' H' ρ' (st2.trans st') sr'
    | ok u S3 =>
      rw [h2] at q1
      intro F3 H3 ρ3 st3 sr3
      dsimp only at q1
      cases hx : view S3 rv with
      | none =>
        rw [hx] at q1
        exact q1.elim
      | some x =>
        rw [hx] at q1
        cases hz : sliceD x l u with
        | none =>
          rw [show ((some x).bind fun x => sliceD x l u) = none from hz] at q1
          exact q1.elim
        | some rz =>
          rw [show ((some x).bind fun x => sliceD x l u) = some rz from hz] at q1
          have s23 := st2.trans st3
          refine slice_ok (c := c) sr3 (view_rep sr3 (vr.mono s23) hx) hz fun w F4 H4 ρ4 st4 sr4 vr4 => ?_
          exact q1 w F4 H4 ρ4 (s23.trans st4) sr4 (vr4.back s23.back) ((vr4.back s23.back).back st.back)
end
end Ev
set_option linter.all false
set_option maxHeartbeats 1000000
namespace Ev
open PySem L2

/-- behind an outcome -/
def QO {α : Type} (c : Cs) (Xw : XW) (τ : L2.St) (F : Hp) (ρ : List Addr) (H : Hp) (o : Out α) (Φ : α → Store → Hp → Hp → List Addr → Prop) : Prop := match o with
  | .ok a S' => ∀ F' H' ρ', Step F ρ H F' ρ' H' → SRep c F' H' ρ' S' → Φ a S' F' H' ρ'
  | .exc n fs S' => ∀ F' H' ρ', Step F ρ H F' ρ' H' → SRep c F' H' ρ' S' → Xw n fs S' τ F' H' ρ'
  | .bad => False
section
variable {α β : Type} {c : Cs} {Xw : XW} {τ : L2.St} {F H : Hp} {ρ : List Addr}
theorem QO.imp {o : Out α} {Φ Ψ : α → Store → Hp → Hp → List Addr → Prop} (h : QO c Xw τ F ρ H o Φ) (k : ∀ a S' F' H' ρ', Step F ρ H F' ρ' H' → SRep c F' H' ρ' S' → Φ a S' F' H' ρ' → Ψ a S' F' H' ρ') : QO c Xw τ F ρ H o Ψ := by
  cases o with
  | ok a S' => exact fun F' H' ρ' st sr => k _ _ _ _ _ st sr (h F' H' ρ' st sr)
  | exc n fs S' => exact h
  | bad => exact h
/-- from a later state -/
theorem QO.later {o : Out α} {Φ : α → Store → Hp → Hp → List Addr → Prop} {F1 H1 : Hp} {ρ1 : List Addr} (st : Step F ρ H F1 ρ1 H1) (h : QO c Xw τ F ρ H o Φ) : QO c Xw τ F1 ρ1 H1 o Φ := by
  cases o with
  | ok a S' => exact fun F' H' ρ' s2 sr => h F' H' ρ' (st.trans s2) sr
  | exc n fs S' => exact fun F' H' ρ' s2 sr => h F' H' ρ' (st.trans s2) sr
  | bad => exact h
theorem QO.bind {o : Out α} {k : α → Store → Out β} {Φ : β → Store → Hp → Hp → List Addr → Prop} (h : QO c Xw τ F ρ H (o.bind k) Φ) :
    QO c Xw τ F ρ H o fun a S' _ _ _ => ∀ {F2 H2 : Hp} {ρ2 : List Addr}, Step F ρ H F2 ρ2 H2 → QO c Xw τ F2 ρ2 H2 (k a S') Φ := by
  cases o with
  | ok a S' => exact fun F' H' ρ' _ _ F2 H2 ρ2 st => QO.later st (show QO c Xw τ F ρ H (k a S') Φ from h)
  | exc n fs S' => exact h
  | bad => exact h
theorem QO.now {a : α} {S : Store} {Φ : α → Store → Hp → Hp → List Addr → Prop} (sr : SRep c F H ρ S) (h : QO c Xw τ F ρ H (.ok a S) Φ) : Φ a S F H ρ := h F H ρ (Step.refl _ _ _) sr
theorem QO.at {a : α} {S : Store} {Φ : α → Store → Hp → Hp → List Addr → Prop} {F' H' : Hp} {ρ' : List Addr} (h : QO c Xw τ F ρ H (.ok a S) Φ) (st : Step F ρ H F' ρ' H') (sr : SRep c F' H' ρ' S) : Φ a S F' H' ρ' := h F' H' ρ' st sr
theorem tE_mk {f : Env → Store → Out RV} {σ : Env} {S : Store} {Q : VK} (a : At c σ S τ F H ρ) (h : QO c Xw τ F ρ H (f σ S) fun rv S' F' H' ρ' => ∀ v, VRep c F' H' ρ' H v rv → Q v H') : tE c Xw f τ H Q := by
  refine ⟨σ, S, F, ρ, a, ?_⟩
  cases e : f σ S with
  | ok rv S' =>
    rw [e] at h
    exact fun v F' H' ρ' st sr vr => h F' H' ρ' st sr v vr
  | exc n fs S' =>
    rw [e] at h
    exact h
  | bad =>
    rw [e] at h
    exact h
theorem tE_un {f : Env → Store → Out RV} {Q : VK} (h : tE c Xw f τ H Q) : ∃ σ S F ρ, At c σ S τ F H ρ ∧ QO c Xw τ F ρ H (f σ S) fun rv S' F' H' ρ' => ∀ v, VRep c F' H' ρ' H v rv → Q v H' := by
  obtain ⟨σ, S, F, ρ, a, h⟩ := h
  refine ⟨σ, S, F, ρ, a, ?_⟩
  cases e : f σ S with
  | ok rv S' =>
    rw [e] at h
    exact fun F' H' ρ' st sr v vr => h v F' H' ρ' st sr vr
  | exc n fs S' =>
    rw [e] at h
    exact h
  | bad =>
    rw [e] at h
    exact h
end
/-- an argument list's reading -/
def tA (c : Cs) (Xw : XW) (f : Env → Store → Out (List W)) : TA := fun τ H Q => ∃ σ S F ρ, At c σ S τ F H ρ ∧ QO c Xw τ F ρ H (f σ S) fun ws S' F' H' ρ' => ∀ vs, WReps c F' ρ' vs ws → Q vs H'
/-- a test's -/
def tB (c : Cs) (Xw : XW) (f : Env → Store → Out Bool) : TT := fun τ H Q => ∃ σ S F ρ, At c σ S τ F H ρ ∧ QO c Xw τ F ρ H (f σ S) fun b S' F' H' ρ' => Q b H'
end Ev
set_option linter.all false
set_option maxHeartbeats 2000000
namespace Ev
open PySem PySem.Spec PyProof.Rows L2

/-! ## max of a tuple of two ints; the empty dict -/
theorem max_pair {prog : Program} {w : World} {A : Around} {E : Value → Shared → Prop} {s : Shared} {Q : Value → Shared → Prop} {l : Addr} {i j : Int} {t u : Tok} (hh : A.handled = none) (hl : s.heap.IsTuple l #[.int i t, .int j u])
    (h : ∀ h' tk t', (∀ b o, s.heap.get? b = some o → h'.get? b = some o) → Q (.int (if j > i then j else i) t') { s with heap := h', toks := tk }) : wpAny (model prog w) A (call (.builtin "max") [.ref l]) Q E s := by
  have hlt : l < s.heap.objs.size := by
    obtain ⟨o, e, _⟩ := hl
    exact Heap.lt_size e
  refine call_max_walk (wpAny_pyIter_tuple hl ?_)
  refine ⟨_, [_, l], [_], _, _, _, (fun a b => decide ((if a = 0 then i else j) > (if b = 0 then i else j))), rfl, Walks.tuple (A := A.in1) hh _ l (Nat.ne_of_lt hlt) #[.int i t, .int j u],
    ⟨⟨_, Heap.get?_push_size _ rfl, rfl, rfl⟩, hl.push _⟩, fun d hd => ?_, by simp, CmpOf.ints_gt (fun a => if a = 0 then i else j) (fun a v hv => ?_), fun v h' tk hP hk => ?_⟩
  · show d < (s.heap.push _).objs.size
    rw [Heap.size_push]
    rcases List.mem_cons.mp hd with rfl | hd
    · exact Nat.lt_succ_self _
    · rcases List.mem_cons.mp hd with rfl | hd
      · exact Nat.lt_succ_of_lt hlt
      · cases hd
  · match a with
    | 0 => simp at hv; exact ⟨t, hv.symm⟩
    | 1 => simp at hv; exact ⟨u, hv.symm⟩
    | a + 2 => simp at hv
  · have hold : ∀ d o, s.heap.get? d = some o → h'.get? d = some o := fun d o e => by
      refine hk d o (fun hm => ?_) (Heap.get?_push_of_some _ e)
      rcases List.mem_cons.mp hm with e1 | hm
      · have := Heap.lt_size e; rw [e1] at this; exact Nat.lt_irrefl _ this
      · cases hm
    by_cases c : j > i
    · have z := h h' tk u hold
      rw [if_pos c] at z
      have hv : v = .int j u := by
        simp [argBest, c] at hP
        exact hP.symm
      rw [hv]; exact z
    · have z := h h' tk t hold
      rw [if_neg c] at z
      have hv : v = .int i t := by
        simp [argBest, c] at hP
        exact hP.symm
      rw [hv]; exact z
def rMaxT (K : PySem.W.Frag) : List V → Hp → VK → Prop := fun xs H Q => ∃ (a : Addr) (i j : Int), xs = [.ref a] ∧ SqT K H a [.int i, .int j] ∧ Q (.int (if j > i then j else i)) H
section
variable {c : Cs} {X : Cx} {Xw : XW}
theorem cr_maxT (hc : X.calm = true) : CallR X (.builtin "max") (rMaxT X.K) := by
  intro pins s σ H vs us Q I r h
  obtain ⟨a, i, j, rfl, hs, q⟩ := h
  obtain ⟨its, rv, hl, _⟩ := I.tuple hs
  rw [Vals.ref1 r]
  obtain ⟨u1, u2, rfl, r1, r2⟩ := vals2 rv
  obtain ⟨t1, e1⟩ := (show ∃ t, u1 = Value.int i t from r1)
  obtain ⟨t2, e2⟩ := (show ∃ t, u2 = Value.int j t from r2)
  subst e1 e2
  exact max_pair (I.ok.hd hc) hl fun h' tk t' hk => ⟨.int _, H, I.kept hk, ⟨_, rfl⟩, q⟩
/-- {} -/
theorem je_dict0 {pos : Pos} : PE X (.Dict [] [] pos) (tE c Xw fun _ S => .ok (.ownd false [] []) S) := by
  refine je_imp pe_dnewK fun τ H Q h => ?_
  obtain ⟨σ, S, F, ρ, a, q⟩ := h
  intro p hp
  obtain ⟨s1, s2⟩ := new_own (o := .dK []) a.st hp
  exact q _ F _ ρ s1 s2 ⟨p, [], rfl, .inl ⟨rfl, [], .nil, upd_same⟩, hp, fresh_F a.st hp, a.st.fresh hp, .nil⟩
end
end Ev
set_option linter.all false
set_option maxHeartbeats 2000000
namespace Ev
open PySem L2

section
variable {c : Cs} {G : Gm} {fr : Fr} {X : Cx} {Xw : XW} {R : Rec}

/-! ### arguments -/
def isStar : Expr → Bool
  | .Starred .. => true | _ => false
theorem starEach_plain {e : Expr} {es : List Expr} {env : PySem.Env} (h : isStar e = false) : starEach (e :: es) env = (false, eval e env) :: starEach es env := by
  cases e <;> first | rfl | cases h
theorem reps_wreps {F : Hp} {ρ : List Addr} : ∀ {vs : List V} {xs : List D}, Reps c F vs xs → WReps c F ρ vs (xs.map .d)
  | _, _, .nil => .nil
  | _, _, .cons h r => .cons (.d h) (reps_wreps r)
theorem WReps.app {F : Hp} {ρ : List Addr} : ∀ {vs us : List V} {ws zs : List W}, WReps c F ρ vs ws → WReps c F ρ us zs → WReps c F ρ (vs ++ us) (ws ++ zs)
  | _, _, _, _, .nil, r => r
  | _, _, _, _, .cons h t, r => .cons h (WReps.app t r)
theorem evArgs_plain {σ : Env} {S : Store} {e : Expr} {es : List Expr} (h : isStar e = false) : evArgs R fr σ (e :: es) S = (R.E fr σ e S).bind fun v S1 => (evArgs R fr σ es S1).bind fun ws S2 => .ok (v.toW :: ws) S2 := by
  cases e <;> first | rfl | cases h
theorem ja_args (hE : ∀ e, PE X e (tE c Xw fun σ S => R.E fr σ e S)) : ∀ es : List Expr, PA X es (tA c Xw fun σ S => evArgs R fr σ es S)
  | [] => ⟨fun pos pins s τ H Q I h => pa_nil.run pos pins s τ H Q I (by
      obtain ⟨σ, S, F, ρ, a, q⟩ := h
      exact QO.now (Xw := Xw) a.st q [] .nil)⟩
  | e :: es => by
    have hr := ja_args hE es
    have plain : isStar e = false → PA X (e :: es) (tA c Xw fun σ S => evArgs R fr σ (e :: es) S) := by
      intro hs
      refine ⟨fun pos pins s τ H Q I h => (pa_cons (hE e) hr (starEach_plain hs)).run pos pins s τ H Q I ?_⟩
      obtain ⟨σ, S, F, ρ, a, q⟩ := h
      dsimp only at q
      rw [evArgs_plain hs] at q
      refine tE_mk a ((QO.bind q).imp fun rv S1 F1 H1 ρ1 st sr q1 v vr => ?_)
      obtain ⟨F2, s2, st2, sr2, wr⟩ := toW_rep sr st vr
      exact ⟨σ, S1, F2, ρ1, ⟨a.env.mono st2.frz st2.pre, sr2⟩, (QO.bind (q1 st2)).imp fun ws S2 F3 H3 ρ3 st4 sr4 q4 vs wr' => QO.now sr4 (q4 st4) (v :: vs) (.cons (wr.mono st4.frz st4.pre) wr')⟩
    cases e with
    | Starred e p =>
      refine ⟨fun pos pins s τ H Q I h => (StX.pa_star (hE e) hr).run pos pins s τ H Q I ?_⟩
      obtain ⟨σ, S, F, ρ, a, q⟩ := h
      dsimp only at q
      have eq : evArgs R fr σ (.Starred e p :: es) S = (R.E fr σ e S).bind fun v S1 => match view S1 v with
        | some (.tup xs) => (evArgs R fr σ es S1).bind fun ws S2 => .ok (xs.map .d ++ ws) S2
        | some (.lst xs) => (evArgs R fr σ es S1).bind fun ws S2 => .ok (xs.map .d ++ ws) S2
        | _ => .bad := rfl
      rw [eq] at q
      refine tE_mk a ((QO.bind q).imp fun rv S1 F1 H1 ρ1 st sr q0 v vr => ?_)
      have q1 := q0 st
      have go : ∀ {xs : List D} {p : Addr} {us : List V}, v = .ref p → (SqT X.K H1 p us ∨ SqL X.K H1 p us) → Reps c F1 us xs →
          QO c Xw τ F1 ρ1 H1 ((evArgs R fr σ es S1).bind fun ws S2 => Out.ok (xs.map W.d ++ ws) S2) (fun ws S' F' H' ρ' => ∀ vs, WReps c F' ρ' vs ws → Q vs H') →
          ∃ p xs, v = V.ref p ∧ (SqT X.K H1 p xs ∨ SqL X.K H1 p xs) ∧ tA c Xw (fun σ S => evArgs R fr σ es S) τ H1 fun ys H2 => Q (xs ++ ys) H2 := fun {xs p us} ev hs r q2 =>
        ⟨p, us, ev, hs, σ, S1, F1, ρ1, a.step st sr, (QO.bind q2).imp fun ws S2 F3 H3 ρ3 st4 sr4 q4 vs wr' => QO.now sr4 (q4 st4) (us ++ vs) (WReps.app (reps_wreps (r.mono st4.frz)) wr')⟩
      cases hv : view S1 rv with
      | none =>
        rw [hv] at q1
        exact q1.elim
      | some x =>
        have tr := view_rep sr vr hv
        rw [hv] at q1
        cases x with
        | tup xs =>
          obtain ⟨p, us, e1, e2, r⟩ := rep_tup tr
          exact go e1 (.inl (SqT.of (sr.sub _ _ e2))) r q1
        | lst xs =>
          obtain ⟨p, us, e1, e2, r⟩ := tr
          exact go e1 (.inr (SqL.of e2)) r q1
        | _ => exact q1.elim
    | _ => exact plain rfl

/-- a tuple, a list of written items -/
def mkTup (ws : List W) (S : Store) : Out RV := match toDs ws with
  | some xs => if xs.length ≤ line then .ok (.d (.tup xs)) S else .bad
  | none => .bad
def mkLst (ws : List W) (S : Store) : Out RV := match toDs ws with
  | some xs => if xs.length ≤ line then .ok (.own xs) S else .bad
  | none => .bad
theorem je_tup {es : List Expr} {k : Nat} {pos : Pos} {f : Env → Store → Out (List W)} (h : PA X es (tA c Xw f)) :
    PE X (.Tuple es k pos) (tE c Xw fun σ S => (f σ S).bind mkTup) := by
  refine je_imp (pe_tup h) fun τ H Q h' => ?_
  obtain ⟨σ, S, F, ρ, a, q⟩ := tE_un h'
  refine ⟨σ, S, F, ρ, a, (QO.bind q).imp fun ws S1 F1 H1 ρ1 st sr q0 vs wr => ?_⟩
  have q1 := q0 st
  unfold mkTup at q1
  cases hx : toDs ws with
  | none =>
    rw [hx] at q1
    exact q1.elim
  | some xs =>
    rw [hx] at q1
    dsimp only at q1
    by_cases hl : xs.length ≤ line
    · rw [if_pos hl] at q1
      have r := toDs_reps wr hx
      exact ⟨by rw [r.length, ← line_eq]; exact hl, new_tup sr r fun w F' H' ρ' st' sr' vr' => q1 F' H' ρ' st' sr' w (vr'.back st.back)⟩
    · rw [if_neg hl] at q1
      exact q1.elim
theorem je_lst {es : List Expr} {pos : Pos} {f : Env → Store → Out (List W)} (h : PA X es (tA c Xw f)) :
    PE X (.List es pos) (tE c Xw fun σ S => (f σ S).bind mkLst) := by
  refine je_imp (pe_lst h) fun τ H Q h' => ?_
  obtain ⟨σ, S, F, ρ, a, q⟩ := tE_un h'
  refine ⟨σ, S, F, ρ, a, (QO.bind q).imp fun ws S1 F1 H1 ρ1 st sr q0 vs wr => ?_⟩
  have q1 := q0 st
  unfold mkLst at q1
  cases hx : toDs ws with
  | none =>
    rw [hx] at q1
    exact q1.elim
  | some xs =>
    rw [hx] at q1
    dsimp only at q1
    by_cases hl : xs.length ≤ line
    · rw [if_pos hl] at q1
      have r := toDs_reps wr hx
      exact ⟨by rw [r.length, ← line_eq]; exact hl, new_list sr r fun w F' H' ρ' st' sr' vr' => q1 F' H' ρ' st' sr' w (vr'.back st.back)⟩
    · rw [if_neg hl] at q1
      exact q1.elim

/-! ### truth, and, or, not, if -/
theorem truV_of {F H : Hp} {ρ : List Addr} {S : Store} (sr : SRep c F H ρ S) {v : V} {x : D} {k : Bool} (h : TRep c F H v x) (e : truD x = some k) : TruV X.K v H k := by
  cases x with
  | non => cases rep_non h; cases e; rfl
  | bl b => cases rep_bl h; cases e; rfl
  | int i => cases rep_int h; cases e; rfl
  | str z =>
    cases rep_str h
    unfold truD at e
    dsimp only at e
    split at e
    · rename_i hl
      cases e
      exact ⟨by rw [← line_eq]; exact hl, rfl⟩
    · cases e
  | tup xs =>
    obtain ⟨a, vs, rfl, ha, r⟩ := rep_tup h
    cases e
    refine .inr (.inl ⟨vs, SqT.of (sr.sub _ _ ha), ?_⟩)
    cases r <;> rfl
  | lst xs =>
    obtain ⟨a, vs, rfl, ha, r⟩ := h
    cases e
    refine .inl ⟨vs, SqL.of ha, ?_⟩
    cases r <;> rfl
  | _ => cases e
def truO (S : Store) (v : RV) : Option Bool := (view S v).bind truD
theorem truO_of {F H H₀ : Hp} {ρ : List Addr} {S : Store} (sr : SRep c F H ρ S) {v : V} {rv : RV} {k : Bool} (h : VRep c F H ρ H₀ v rv) (e : truO S rv = some k) : TruV X.K v H k := by
  unfold truO at e
  cases hx : view S rv with
  | none =>
    rw [hx] at e
    cases e
  | some x =>
    rw [hx] at e
    exact truV_of sr (view_rep sr h hx) e
theorem je_not {a : Expr} {pos : Pos} {f : Env → Store → Out RV} (h : PE X a (tE c Xw f)) :
    PE X (.UnaryOp .Not a pos) (tE c Xw fun σ S => (f σ S).bind fun v S1 => opt ((truO S1 v).map fun b => .d (.bl (!b))) S1) := by
  refine je_imp (pe_notT h) fun τ H Q h' => ?_
  obtain ⟨σ, S, F, ρ, a, q⟩ := tE_un h'
  refine tE_mk a ((QO.bind q).imp fun rv S1 F1 H1 ρ1 st sr q0 v vr => ?_)
  have q1 := q0 st
  cases hk : truO S1 rv with
  | none =>
    rw [hk] at q1
    exact q1.elim
  | some k =>
    rw [hk] at q1
    exact ⟨k, truO_of sr vr hk, QO.now sr q1 _ (.d (.bl _))⟩
theorem je_neg {a : Expr} {pos : Pos} {f : Env → Store → Out RV} (h : PE X a (tE c Xw f)) :
    PE X (.UnaryOp .USub a pos) (tE c Xw fun σ S => (f σ S).bind fun v S1 => opt ((partI v).map fun i => .d (.int (-i))) S1) := by
  refine je_imp (pe_un un_neg h) fun τ H Q h' => ?_
  obtain ⟨σ, S, F, ρ, a, q⟩ := tE_un h'
  refine tE_mk a ((QO.bind q).imp fun rv S1 F1 H1 ρ1 st sr q0 v vr => ?_)
  have q1 := q0 st
  cases hk : partI rv with
  | none =>
    rw [hk] at q1
    exact q1.elim
  | some i =>
    rw [hk] at q1
    exact ⟨i, partI_rep vr hk, QO.now sr q1 _ (.d (.int _))⟩
/-- x and .., x or .. -/
def boolV (f : Expr → Env → Store → Out RV) (σ : Env) (op : BoolOp) : List Expr → Store → Out RV
  | [], _ => .bad
  | [e], S => f e σ S
  | e :: e' :: es, S => (f e σ S).bind fun v S1 => match op, truO S1 v with
    | .And, some true => boolV f σ op (e' :: es) S1
    | .And, some false => .ok v S1
    | .Or, some true => .ok v S1
    | .Or, some false => boolV f σ op (e' :: es) S1
    | _, none => .bad
theorem je_boolop {op : BoolOp} {pos : Pos} {f : Expr → Env → Store → Out RV} (h : ∀ e, PE X e (tE c Xw (f e))) : ∀ es : List Expr, PE X (.BoolOp op es pos) (tE c Xw fun σ S => boolV f σ op es S)
  | [] => je_bad
  | [e] => pe_one (h e)
  | e :: e' :: es => by
    have hr := je_boolop (op := op) (pos := pos) h (e' :: es)
    cases op with
    | And =>
      refine je_imp (pe_andT (h e) hr) fun τ H Q h' => ?_
      obtain ⟨σ, S, F, ρ, a, q⟩ := tE_un h'
      dsimp only [boolV] at q
      refine tE_mk a ((QO.bind q).imp fun rv S1 F1 H1 ρ1 st sr q0 v vr => ?_)
      have q1 := q0 st
      cases hk : truO S1 rv with
      | none =>
        rw [hk] at q1
        exact q1.elim
      | some k =>
        rw [hk] at q1
        refine ⟨k, truO_of sr vr hk, ?_⟩
        cases k with
        | true => exact iteT (tE_mk (a.step st sr) (q1.imp fun ru S2 F2 H2 ρ2 st2 sr2 q2 u ur => q2 u (ur.back st.back)))
        | false => exact iteF (QO.now sr q1 v vr)
    | Or =>
      refine je_imp (pe_orT (h e) hr) fun τ H Q h' => ?_
      obtain ⟨σ, S, F, ρ, a, q⟩ := tE_un h'
      dsimp only [boolV] at q
      refine tE_mk a ((QO.bind q).imp fun rv S1 F1 H1 ρ1 st sr q0 v vr => ?_)
      have q1 := q0 st
      cases hk : truO S1 rv with
      | none =>
        rw [hk] at q1
        exact q1.elim
      | some k =>
        rw [hk] at q1
        refine ⟨k, truO_of sr vr hk, ?_⟩
        cases k with
        | false => exact iteF (tE_mk (a.step st sr) (q1.imp fun ru S2 F2 H2 ρ2 st2 sr2 q2 u ur => q2 u (ur.back st.back)))
        | true => exact iteT (QO.now sr q1 v vr)
theorem je_if {t a b : Expr} {pos : Pos} {ft : Env → Store → Out Bool} {fa fb : Env → Store → Out RV} (ht : PT X t (tB c Xw ft)) (ha : PE X a (tE c Xw fa)) (hb : PE X b (tE c Xw fb)) :
    PE X (.IfExp t a b pos) (tE c Xw fun σ S => (ft σ S).bind fun k S1 => if k = true then fa σ S1 else fb σ S1) := by
  refine je_imp (pe_ifExp ht ha hb) fun τ H Q h' => ?_
  obtain ⟨σ, S, F, ρ, a, q⟩ := tE_un h'
  refine ⟨σ, S, F, ρ, a, (QO.bind q).imp fun k S1 F1 H1 ρ1 st sr q0 => ?_⟩
  have q1 := q0 st
  cases k with
  | true => exact iteT (tE_mk (a.step st sr) (QO.imp q1 fun ru S2 F2 H2 ρ2 st2 sr2 q2 u ur => q2 u (ur.back st.back)))
  | false => exact iteF (tE_mk (a.step st sr) (QO.imp q1 fun ru S2 F2 H2 ρ2 st2 sr2 q2 u ur => q2 u (ur.back st.back)))

/-! ### tests -/
theorem jt_truth {a : Expr} {f : Env → Store → Out RV} (h : PE X a (tE c Xw f)) (he : ∀ whole, isTrue a X.env whole = (do let v ← whole; standAt a.pos; holding [v] (truthy v))) :
    PT X a (tB c Xw fun σ S => (f σ S).bind fun v S1 => match truO S1 v with | some k => .ok k S1 | none => .bad) := by
  refine pt_imp (pt_truth h he) fun τ H Q h' => ?_
  obtain ⟨σ, S, F, ρ, a, q⟩ := h'
  refine tE_mk a ((QO.bind q).imp fun rv S1 F1 H1 ρ1 st sr q0 v vr => ?_)
  have q1 := q0 st
  cases hk : truO S1 rv with
  | none =>
    rw [hk] at q1
    exact q1.elim
  | some k =>
    rw [hk] at q1
    exact ⟨k, truO_of sr vr hk, QO.now sr q1⟩
theorem jt_not {a : Expr} {pos : Pos} {f : Env → Store → Out Bool} (h : PT X a (tB c Xw f)) :
    PT X (.UnaryOp .Not a pos) (tB c Xw fun σ S => (f σ S).bind fun k S1 => .ok (!k) S1) := by
  refine pt_imp (pt_not h) fun τ H Q h' => ?_
  obtain ⟨σ, S, F, ρ, a, q⟩ := h'
  exact ⟨σ, S, F, ρ, a, (QO.bind q).imp fun k S1 F1 H1 ρ1 st sr q0 => QO.now sr (q0 st)⟩
def boolT (f : Expr → Env → Store → Out Bool) (σ : Env) (op : BoolOp) : List Expr → Store → Out Bool
  | [], _ => .bad
  | [e], S => f e σ S
  | e :: e' :: es, S => (f e σ S).bind fun k S1 => match op, k with
    | .And, true => boolT f σ op (e' :: es) S1
    | .And, false => .ok false S1
    | .Or, true => .ok true S1
    | .Or, false => boolT f σ op (e' :: es) S1
theorem jt_boolop {op : BoolOp} {pos : Pos} {f : Expr → Env → Store → Out Bool} (h : ∀ e, PT X e (tB c Xw (f e))) : ∀ es : List Expr, es ≠ [] → PW X (.BoolOp op es pos) (tB c Xw fun σ S => boolT f σ op es S)
  | [], hn => absurd rfl hn
  | [e], _ => by
    cases op with
    | And => exact pw_and1 (h e)
    | Or => exact pw_or1 (h e)
  | e :: e' :: es, _ => by
    have hr := jt_boolop (op := op) (pos := pos) h (e' :: es) (by simp)
    cases op with
    | And =>
      have hw := pw_and (h e) hr
      refine ⟨fun wh pins s τ H Q I h' => hw.run wh pins s τ H Q I ?_⟩
      obtain ⟨σ, S, F, ρ, a, q⟩ := h'
      dsimp only [boolT] at q
      refine ⟨σ, S, F, ρ, a, (QO.bind q).imp fun k S1 F1 H1 ρ1 st sr q0 => ?_⟩
      have q1 := q0 st
      cases k with
      | true => exact iteT ⟨σ, S1, F1, ρ1, a.step st sr, q1⟩
      | false => exact iteF (QO.now sr q1)
    | Or =>
      have hw := pw_or (h e) hr
      refine ⟨fun wh pins s τ H Q I h' => hw.run wh pins s τ H Q I ?_⟩
      obtain ⟨σ, S, F, ρ, a, q⟩ := h'
      dsimp only [boolT] at q
      refine ⟨σ, S, F, ρ, a, (QO.bind q).imp fun k S1 F1 H1 ρ1 st sr q0 => ?_⟩
      have q1 := q0 st
      cases k with
      | true => exact iteT (QO.now sr q1)
      | false => exact iteF ⟨σ, S1, F1, ρ1, a.step st sr, q1⟩
/-- a comparison as a test -/
def asB : RV → Option Bool
  | .w (.d (.bl b)) => some b
  | _ => none
theorem asB_rep {F H : Hp} {ρ : List Addr} {H₀ : Hp} {v : V} {rv : RV} {i : Bool} (h : VRep c F H ρ H₀ v rv) (e : asB rv = some i) : v = .bl i := by
  unfold asB at e
  split at e
  · cases e
    cases h with
    | d r =>
      cases r
      rfl
  · cases e
theorem jt_of {a : Expr} {t : TE} {f : Env → Store → Out RV} (h : PT X a (tTest t)) (rd : ∀ τ H Q, tE c Xw f τ H Q → t τ H Q) :
    PT X a (tB c Xw fun σ S => (f σ S).bind fun v S1 => match asB v with | some k => .ok k S1 | none => .bad) := by
  refine pt_imp h fun τ H Q h' => ?_
  obtain ⟨σ, S, F, ρ, a, q⟩ := h'
  refine rd τ H _ (tE_mk a ((QO.bind q).imp fun rv S1 F1 H1 ρ1 st sr q0 v vr => ?_))
  have q1 := q0 st
  cases hk : asB rv with
  | none =>
    rw [hk] at q1
    exact q1.elim
  | some k =>
    rw [hk] at q1
    exact ⟨k, asB_rep vr hk, QO.now sr q1⟩
theorem jt_cmp (hK : X.K = c.K) (hu : X.A.units + 65 < cLine) {op : CmpOp} {a b : Expr} {pos : Pos} {fa fb : Env → Store → Out RV} (ha : PE X a (tE c Xw fa)) (hb : PE X b (tE c Xw fb)) (hn : noSet b = true) :
    PT X (.Compare a [op] [b] pos) (tB c Xw fun σ S => (cmpF op fa fb σ S).bind fun v S1 => match asB v with | some k => .ok k S1 | none => .bad) := jt_of (pt_cmpR (opC hu op) ha hb (noSet_marks hn op)) (cmp_read hK)
theorem jt_chain (hK : X.K = c.K) (hu : X.A.units + 65 < cLine) {op op' : CmpOp} {a b e : Expr} {pos : Pos} {fa fb fe : Env → Store → Out RV} (ha : PE X a (tE c Xw fa)) (hb : PE X b (tE c Xw fb)) (he : PE X e (tE c Xw fe)) (hn : noSet e = true) :
    PT X (.Compare a [op, op'] [b, e] pos) (tB c Xw fun σ S => (chainF op op' fa fb fe σ S).bind fun v S1 => match asB v with | some k => .ok k S1 | none => .bad) := jt_of (pt_chain (opC hu op) (opC hu op') ha hb he (by show behindInMarks op' e = false; exact noSet_marks hn op')) (chain_read hK)
end
end Ev
set_option linter.all false
set_option maxHeartbeats 2000000
namespace Ev
open PySem L2

section
variable {c : Cs} {G : Gm} {fr : Fr} {X : Cx} {Xw : XW} {R : Rec}

/-! ### built-ins by name -/
abbrev TReps (c : Cs) (F H : Hp) : List V → List D → Prop := Paired (TRep c F H)
def views (S : Store) : List W → Option (List D)
  | [] => some []
  | w :: ws => match view S (.w w), views S ws with
    | some x, some xs => some (x :: xs)
    | _, _ => none
theorem views_reps {F H : Hp} {ρ : List Addr} {S : Store} (sr : SRep c F H ρ S) : ∀ {vs : List V} {ws : List W} {xs : List D}, WReps c F ρ vs ws → views S ws = some xs → TReps c F H vs xs
  | _, _, _, .nil, e => by
    cases e
    exact .nil
  | _, _, _, .cons (b := w) h r, e => by
    unfold views at e
    split at e
    · rename_i x xs h1 h2
      cases e
      exact .cons (view_rep (H₀ := H) sr (rv := .w w) h h1) (views_reps sr r h2)
    · cases e
def ServesN (c : Cs) (r : List V → Hp → VK → Prop) (o : List D → Option RV) : Prop := ∀ (F H : Hp) (ρ : List Addr) (S : Store) (vs : List V) (xs : List D) (rv : RV) (Q : VK), SRep c F H ρ S → TReps c F H vs xs → o xs = some rv →
  (∀ w F' H' ρ', Step F ρ H F' ρ' H' → SRep c F' H' ρ' S → VRep c F' H' ρ' H w rv → Q w H') → r vs H Q
def biO (o : List D → Option RV) (ws : List W) (S : Store) : Out RV := opt ((views S ws).bind o) S
theorem jbi_read {r : List V → Hp → VK → Prop} {o : List D → Option RV} (hs : ServesN c r o) {f : Env → Store → Out (List W)} (τ : L2.St) (H : Hp) (Q : VK) (h : tE c Xw (fun σ S => (f σ S).bind (biO o)) τ H Q) : tCB r (tA c Xw f) τ H Q := by
  obtain ⟨σ, S, F, ρ, a, q⟩ := tE_un h
  refine ⟨σ, S, F, ρ, a, (QO.bind q).imp fun ws S1 F1 H1 ρ1 st sr q0 vs wr => ?_⟩
  have q1 := q0 st
  unfold biO at q1
  cases hx : views S1 ws with
  | none =>
    rw [hx] at q1
    exact q1.elim
  | some xs =>
    rw [hx] at q1
    cases ho : o xs with
    | none =>
      rw [show (some xs).bind o = none from ho] at q1
      exact q1.elim
    | some rz =>
      rw [show (some xs).bind o = some rz from ho] at q1
      exact hs F1 H1 ρ1 S1 vs xs rz Q sr (views_reps sr wr hx) ho fun w F' H' ρ' st' sr' vr' => q1 F' H' ρ' st' sr' w (vr'.back st.back)
theorem callR_or {f : Value} {r r' : List V → Hp → VK → Prop} (h : CallR X f r) (h' : CallR X f r') : CallR X f (fun xs H Q => r xs H Q ∨ r' xs H Q) := CallR.or h h'
theorem backTo_plain : ∀ {es : List Expr} {env : PySem.Env} {pos : Pos}, es.all (fun e => !isStar e) = true → (backTo pos (starEach es env)).any (·.1) = false
  | [], _, _, _ => rfl
  | e :: es, env, pos, h => by
    rw [List.all_cons, Bool.and_eq_true] at h
    have h1 : isStar e = false := by simpa using h.1
    rw [starEach_plain h1]
    show (false || (backTo pos (starEach es env)).any (·.1)) = false
    rw [backTo_plain h.2]
    rfl
def plainArgs (es : List Expr) : Bool := es.all fun e => !isStar e
theorem plain_cons {e : Expr} {es : List Expr} (h : plainArgs (e :: es) = true) : isStar e = false ∧ plainArgs es = true := by
  unfold plainArgs at h ⊢
  rw [List.all_cons, Bool.and_eq_true] at h
  exact ⟨by simpa using h.1, h.2⟩
theorem isBi_ok (ok : XOk c G fr X) {x y : Str} (h : isBi G fr x y = true) (hy : y ≠ "__name__") : x = y ∧ L2.Gl X x ∧ (x == ("__debug__" : Str)) = false ∧ X.mg x = none := by
  unfold isBi at h
  simp only [Bool.and_eq_true, decide_eq_true_eq, Option.isNone_iff_eq_none] at h
  obtain ⟨⟨rfl, h2⟩, h3⟩ := h
  obtain ⟨g1, g2⟩ := isGl_gl ok h2
  exact ⟨rfl, g1, g2, ok.bi x h3 hy⟩
theorem jbi_fn (ok : XOk c G fr X) {x y : Str} {id : String} (hb : isBi G fr x y = true) (hy : y ≠ "__name__") (hv : bootBuiltins y = some (.builtin id)) {r : List V → Hp → VK → Prop} {o : List D → Option RV} (hc : CallR X (.builtin id) r) (hs : ServesN c r o)
    {e : Expr} {es : List Expr} {p pos : Pos} (hp : plainArgs (e :: es) = true) {f : Env → Store → Out (List W)} (ha : PA X (e :: es) (tA c Xw f)) : PE X (.Call (.Name x p) (e :: es) [] pos) (tE c Xw fun σ S => (f σ S).bind (biO o)) := by
  obtain ⟨rfl, g1, g2, g3⟩ := isBi_ok ok hb hy
  obtain ⟨p1, p2⟩ := plain_cons hp
  exact je_imp (pe_callB hc g1 g3 hv ha hy g2 (starEach_plain p1) (backTo_plain p2)) (jbi_read hs)
theorem jbi_ty (ok : XOk c G fr X) {x y : Str} {T : String} (hb : isBi G fr x y = true) (hy : y ≠ "__name__") (hv : bootBuiltins y = some (.type T)) {r : List V → Hp → VK → Prop} {o : List D → Option RV} (hc : CallR X (.type T) r) (hs : ServesN c r o)
    {e : Expr} {es : List Expr} {p pos : Pos} (hp : plainArgs (e :: es) = true) {f : Env → Store → Out (List W)} (ha : PA X (e :: es) (tA c Xw f)) : PE X (.Call (.Name x p) (e :: es) [] pos) (tE c Xw fun σ S => (f σ S).bind (biO o)) := by
  obtain ⟨rfl, g1, g2, g3⟩ := isBi_ok ok hb hy
  obtain ⟨p1, p2⟩ := plain_cons hp
  exact je_imp (pe_callTy hc g1 g3 hv ha hy g2 (starEach_plain p1) (backTo_plain p2)) (jbi_read hs)

/-! ### each of them -/
theorem two_reps {F H : Hp} {vs : List V} {x y : D} (h : TReps c F H vs [x, y]) : ∃ v u, vs = [v, u] ∧ TRep c F H v x ∧ TRep c F H u y := by
  cases h with
  | cons h1 r =>
    cases r with
    | cons h2 r =>
      cases r
      exact ⟨_, _, rfl, h1, h2⟩
theorem one_reps {F H : Hp} {vs : List V} {x : D} (h : TReps c F H vs [x]) : ∃ v, vs = [v] ∧ TRep c F H v x := by
  cases h with
  | cons h1 r =>
    cases r
    exact ⟨_, rfl, h1⟩
def oLen : List D → Option RV
  | [.dct _ _ _] => none
  | [x] => (lenD x).map fun n => .d (.int n)
  | _ => none
def rLenA (K : PySem.W.Frag) : List V → Hp → VK → Prop := fun xs H Q => (∃ p ys, xs = [.ref p] ∧ (SqL K H p ys ∨ SqT K H p ys) ∧ Q (.int ys.length) H) ∨ (∃ z, xs = [.str z] ∧ z.length ≤ sizeLine ∧ Q (.int z.length) H)
theorem cLen : CallR X (.builtin "len") (rLenA X.K) := callR_or call_len_seq call_len_str
theorem sLen : ServesN c (rLenA X.K) oLen := by
  intro F H ρ S vs xs rv Q sr hx ho k
  unfold oLen at ho
  split at ho
  · cases ho
  · rename_i x _
    obtain ⟨v, rfl, h⟩ := one_reps hx
    cases hn : lenD x with
    | none =>
      rw [hn] at ho
      cases ho
    | some n =>
      rw [hn] at ho
      cases ho
      have now : Q (.int n) H := k _ F H ρ (Step.refl _ _ _) sr (.d (.int n))
      unfold lenD at hn
      split at hn
      · split at hn
        · rename_i hl
          cases hn
          cases rep_str h
          exact .inr ⟨_, rfl, by rw [← line_eq]; exact hl, now⟩
        · cases hn
      · cases hn
        obtain ⟨a, vs, rfl, ha, r⟩ := rep_tup h
        exact .inl ⟨a, vs, rfl, .inr (SqT.of (sr.sub _ _ ha)), by rw [r.length]; exact now⟩
      · cases hn
        obtain ⟨a, vs, rfl, ha, r⟩ := h
        exact .inl ⟨a, vs, rfl, .inl (SqL.of ha), by rw [r.length]; exact now⟩
      · rename_i hne
        exact absurd rfl (hne _ _ _)
      · cases hn
  · cases ho
def oInt : List D → Option RV
  | [.int i] => some (.d (.int i))
  | [.bl b] => some (.d (.int (if b then 1 else 0)))
  | _ => none
theorem sInt : ServesN c (fun xs H Q => (∃ i, xs = [.int i] ∧ Q (.int i) H) ∨ ∃ k, xs = [.bl k] ∧ Q (.int (if k then 1 else 0)) H) oInt := by
  intro F H ρ S vs xs rv Q sr hx ho k
  unfold oInt at ho
  split at ho
  · cases ho
    obtain ⟨v, rfl, h⟩ := one_reps hx
    cases rep_int h
    exact .inl ⟨_, rfl, k _ F H ρ (Step.refl _ _ _) sr (.d (.int _))⟩
  · cases ho
    obtain ⟨v, rfl, h⟩ := one_reps hx
    cases rep_bl h
    exact .inr ⟨_, rfl, k _ F H ρ (Step.refl _ _ _) sr (.d (.int _))⟩
  · cases ho
theorem allB_reps {F : Hp} : ∀ {vs : List V} {xs : List D} {b : Bool}, Reps c F vs xs → allB xs = some b → ∃ bs : List Bool, vs = bs.map V.bl ∧ bs.all id = b
  | _, _, _, .nil, e => by
    cases e
    exact ⟨[], rfl, rfl⟩
  | _, _, _, .cons (x := x) h r, e => by
    cases x with
    | bl b' =>
      cases h
      unfold allB at e
      cases q : allB _ with
      | none =>
        rw [q] at e
        cases e
      | some b2 =>
        rw [q] at e
        cases e
        obtain ⟨bs, e1, e2⟩ := allB_reps r q
        exact ⟨b' :: bs, by rw [e1]; rfl, by rw [List.all_cons, e2]; rfl⟩
    | _ => cases e
def oAll : List D → Option RV
  | [.lst xs] => (allB xs).map fun b => .d (.bl b)
  | _ => none
theorem sAll : ServesN c (rAll X.K) oAll := by
  intro F H ρ S vs xs rv Q sr hx ho k
  unfold oAll at ho
  split at ho
  · rename_i ys
    obtain ⟨v, rfl, a, us, rfl, ha, r⟩ := one_reps hx
    cases q : allB ys with
    | none =>
      rw [q] at ho
      cases ho
    | some b =>
      rw [q] at ho
      cases ho
      obtain ⟨bs, rfl, e2⟩ := allB_reps r q
      exact ⟨a, bs, rfl, SqL.of ha, by rw [e2]; exact k _ F H ρ (Step.refl _ _ _) sr (.d (.bl b))⟩
  · cases ho
theorem intsD_reps {F : Hp} : ∀ {vs : List V} {xs : List D} {ns : List Int}, Reps c F vs xs → intsD xs = some ns → vs = ns.map V.int
  | _, _, _, .nil, e => by
    cases e
    rfl
  | _, _, _, .cons (x := x) h r, e => by
    cases x with
    | int i =>
      cases h
      unfold intsD at e
      cases q : intsD _ with
      | none =>
        rw [q] at e
        cases e
      | some ms =>
        rw [q] at e
        cases e
        rw [intsD_reps r q]
        rfl
    | _ => cases e
theorem maxI_le : ∀ {ns : List Int} {m : Int}, maxI ns = some m → m ∈ ns ∧ ∀ y ∈ ns, y ≤ m
  | [], _, e => by cases e
  | i :: r, m, e => by
    unfold maxI at e
    cases q : maxI r with
    | none =>
      rw [q] at e
      cases e
      cases r with
      | nil => exact ⟨by simp, by simp⟩
      | cons j t =>
        unfold maxI at q
        cases z : maxI t <;> rw [z] at q <;> cases q
    | some j =>
      rw [q] at e
      obtain ⟨h1, h2⟩ := maxI_le q
      have e : (if i < j then j else i) = m := Option.some.inj e
      split at e
      · subst e
        refine ⟨List.mem_cons_of_mem _ h1, fun y hy => ?_⟩
        rcases List.mem_cons.mp hy with rfl | hy
        · omega
        · exact h2 y hy
      · subst e
        refine ⟨List.mem_cons_self, fun y hy => ?_⟩
        rcases List.mem_cons.mp hy with rfl | hy
        · omega
        · have := h2 y hy
          omega
theorem minI_le : ∀ {ns : List Int} {m : Int}, minI ns = some m → m ∈ ns ∧ ∀ y ∈ ns, m ≤ y
  | [], _, e => by cases e
  | i :: r, m, e => by
    unfold minI at e
    cases q : minI r with
    | none =>
      rw [q] at e
      cases e
      cases r with
      | nil => exact ⟨by simp, by simp⟩
      | cons j t =>
        unfold minI at q
        cases z : minI t <;> rw [z] at q <;> cases q
    | some j =>
      rw [q] at e
      obtain ⟨h1, h2⟩ := minI_le q
      have e : (if j < i then j else i) = m := Option.some.inj e
      split at e
      · subst e
        refine ⟨List.mem_cons_of_mem _ h1, fun y hy => ?_⟩
        rcases List.mem_cons.mp hy with rfl | hy
        · omega
        · exact h2 y hy
      · subst e
        refine ⟨List.mem_cons_self, fun y hy => ?_⟩
        rcases List.mem_cons.mp hy with rfl | hy
        · omega
        · have := h2 y hy
          omega
def oMax : List D → Option RV
  | [.int i, .int j] => some (.d (.int (if j > i then j else i)))
  | [.lst xs] => ((intsD xs).bind maxI).map fun i => .d (.int i)
  | [.tup [.int i, .int j]] => some (.d (.int (if j > i then j else i)))
  | _ => none
def oMin : List D → Option RV
  | [.int i, .int j] => some (.d (.int (if j < i then j else i)))
  | [.lst xs] => ((intsD xs).bind minI).map fun i => .d (.int i)
  | _ => none
def rMaxA (K : PySem.W.Frag) : List V → Hp → VK → Prop := fun xs H Q => (∃ i j, xs = [.int i, .int j] ∧ Q (.int (if j > i then j else i)) H) ∨ (rMax K xs H Q ∨ rMaxT K xs H Q)
def rMinA (K : PySem.W.Frag) : List V → Hp → VK → Prop := fun xs H Q => (∃ i j, xs = [.int i, .int j] ∧ Q (.int (if j < i then j else i)) H) ∨ rMin K xs H Q
theorem sMax : ServesN c (rMaxA X.K) oMax := by
  intro F H ρ S vs xs rv Q sr hx ho k
  unfold oMax at ho
  split at ho
  · cases ho
    obtain ⟨v, u, rfl, h1, h2⟩ := two_reps hx
    cases rep_int h1
    cases rep_int h2
    exact .inl ⟨_, _, rfl, k _ F H ρ (Step.refl _ _ _) sr (.d (.int _))⟩
  · rename_i ys
    obtain ⟨v, rfl, a, us, rfl, ha, r⟩ := one_reps hx
    cases q : intsD ys with
    | none =>
      rw [q] at ho
      cases ho
    | some ns =>
      rw [q] at ho
      cases q2 : maxI ns with
      | none =>
        rw [show (some ns).bind maxI = none from q2] at ho
        cases ho
      | some m =>
        rw [show (some ns).bind maxI = some m from q2] at ho
        cases ho
        cases intsD_reps r q
        obtain ⟨g1, g2⟩ := maxI_le q2
        refine .inr <| .inl ⟨a, ns, rfl, SqL.of ha, List.length_pos_of_mem g1, fun m' h1 h2 => ?_⟩
        have e : m' = m := Int.le_antisymm (g2 m' h1) (h2 m g1)
        rw [e]
        exact k _ F H ρ (Step.refl _ _ _) sr (.d (.int _))
  · cases ho
    obtain ⟨v, rfl, h1⟩ := one_reps hx
    cases (show Rep c F v _ from h1) with
    | tup ha r =>
      cases r with
      | cons r1 r =>
        cases r with
        | cons r2 r =>
          cases r
          cases r1
          cases r2
          exact .inr <| .inr ⟨_, _, _, rfl, SqT.of (sr.sub _ _ ha), k _ F H ρ (Step.refl _ _ _) sr (.d (.int _))⟩
  · cases ho
theorem sMin : ServesN c (rMinA X.K) oMin := by
  intro F H ρ S vs xs rv Q sr hx ho k
  unfold oMin at ho
  split at ho
  · cases ho
    obtain ⟨v, u, rfl, h1, h2⟩ := two_reps hx
    cases rep_int h1
    cases rep_int h2
    exact .inl ⟨_, _, rfl, k _ F H ρ (Step.refl _ _ _) sr (.d (.int _))⟩
  · rename_i ys
    obtain ⟨v, rfl, a, us, rfl, ha, r⟩ := one_reps hx
    cases q : intsD ys with
    | none =>
      rw [q] at ho
      cases ho
    | some ns =>
      rw [q] at ho
      cases q2 : minI ns with
      | none =>
        rw [show (some ns).bind minI = none from q2] at ho
        cases ho
      | some m =>
        rw [show (some ns).bind minI = some m from q2] at ho
        cases ho
        cases intsD_reps r q
        obtain ⟨g1, g2⟩ := minI_le q2
        refine .inr ⟨a, ns, rfl, SqL.of ha, List.length_pos_of_mem g1, fun m' h1 h2 => ?_⟩
        have e : m' = m := Int.le_antisymm (h2 m g1) (g2 m' h1)
        rw [e]
        exact k _ F H ρ (Step.refl _ _ _) sr (.d (.int _))
  · cases ho
def oTup : List D → Option RV
  | [.lst xs] => some (.d (.tup xs))
  | [.tup xs] => some (.d (.tup xs))
  | _ => none
theorem sTup : ServesN c (fun xs H Q => ∃ p ys, xs = [.ref p] ∧ ((SqL X.K H p ys ∧ ∀ l, H l = none → Q (.ref l) (upd H l (.tup ys))) ∨ (SqT X.K H p ys ∧ Q (.ref p) H))) oTup := by
  intro F H ρ S vs xs rv Q sr hx ho k
  unfold oTup at ho
  split at ho
  · cases ho
    obtain ⟨v, rfl, a, us, rfl, ha, r⟩ := one_reps hx
    exact ⟨a, us, rfl, .inl ⟨SqL.of ha, new_tup sr r k⟩⟩
  · cases ho
    obtain ⟨v, rfl, h⟩ := one_reps hx
    obtain ⟨a, us, rfl, ha, r⟩ := rep_tup h
    exact ⟨a, us, rfl, .inr ⟨SqT.of (sr.sub _ _ ha), k _ F H ρ (Step.refl _ _ _) sr (.d (.tup ha r))⟩⟩
  · cases ho
def oLst : List D → Option RV
  | [.lst xs] => some (.own xs)
  | [.tup xs] => some (.own xs)
  | _ => none
theorem sLst : ServesN c (fun xs H Q => ∃ p ys, xs = [.ref p] ∧ (SqL X.K H p ys ∨ SqT X.K H p ys) ∧ ∀ l, H l = none → Q (.ref l) (upd H l (.lst ys))) oLst := by
  intro F H ρ S vs xs rv Q sr hx ho k
  unfold oLst at ho
  split at ho
  · cases ho
    obtain ⟨v, rfl, a, us, rfl, ha, r⟩ := one_reps hx
    exact ⟨a, us, rfl, .inl (SqL.of ha), new_list sr r k⟩
  · cases ho
    obtain ⟨v, rfl, h⟩ := one_reps hx
    obtain ⟨a, us, rfl, ha, r⟩ := rep_tup h
    exact ⟨a, us, rfl, .inr (SqT.of (sr.sub _ _ ha)), new_list sr r k⟩
  · cases ho
end
end Ev
set_option linter.all false
set_option maxHeartbeats 2000000
namespace Ev
open PySem L2
section
variable {c : Cs} {G : Gm} {fr : Fr} {X : Cx} {Xw : XW} {R : Rec} {F H : Hp} {ρ : List Addr}
theorem new_cell {F1 H1 : Hp} {ρ1 : List Addr} {S1 : Store} (st : Step F ρ H F1 ρ1 H1) (sr : SRep c F1 H1 ρ1 S1) {p : Addr} {cc : Cell} (hc : CRep c F1 H1 ρ1 p cc) (h0 : H p = none) (hf : F1 p = none) (hr : p ∉ ρ1) :
    Step F ρ H F1 (ρ1 ++ [p]) H1 ∧ SRep c F1 H1 (ρ1 ++ [p]) (S1 ++ [cc]) ∧ WRep c F1 (ρ1 ++ [p]) (.ref p) (.ref S1.length) := by
  have hin : (ρ1 ++ [p])[S1.length]? = some p := by
    rw [List.getElem?_append_right (by rw [sr.len]; exact Nat.le_refl _), sr.len, Nat.sub_self]
    rfl
  refine ⟨⟨st.frz, st.pre.trans (List.prefix_append _ _), st.newF, fun q hq => ?_, st.keep, st.dom⟩, ⟨sr.sub, by rw [List.length_append, List.length_append, sr.len]; rfl, ?_, fun a ha => ?_, fun j cc' a h1 h2 => ?_⟩, .ref hin⟩
  · rcases List.mem_append.mp hq with z | z
    · exact st.newR q z
    · rw [show q = p by simpa using z]
      exact .inr h0
  · exact List.nodup_append.mpr ⟨sr.nd, List.nodup_cons.mpr ⟨by simp, List.nodup_nil⟩, fun a ha b hb => by
      rw [show b = p by simpa using hb]
      exact fun e => hr (e ▸ ha)⟩
  · rcases List.mem_append.mp ha with z | z
    · exact sr.nf a z
    · rw [show a = p by simpa using z]
      exact hf
  · by_cases hj : j < S1.length
    · rw [List.getElem?_append_left hj] at h1
      rw [List.getElem?_append_left (by rw [sr.len]; exact hj)] at h2
      exact (sr.cell j cc' a h1 h2).keep (Same.refl _) (List.prefix_append _ _) fun o h => h
    · rw [List.getElem?_append_right (by omega)] at h1
      rw [List.getElem?_append_right (by rw [sr.len]; omega), sr.len] at h2
      cases hz : j - S1.length with
      | zero =>
        rw [hz] at h1 h2
        simp at h1 h2
        subst h1 h2
        exact hc.keep (Same.refl _) (List.prefix_append _ _) fun o h => h
      | succ z =>
        rw [hz] at h1
        simp at h1
/-- a value kept: a new list or dict is a cell where it is to change -/
def keepW (b : Bool) (rv : RV) (S : Store) : W × Store := match b, rv with
  | true, .own xs => (.ref S.length, S ++ [.lst (xs.map .d)])
  | true, .ownd t ks vs => (.ref S.length, S ++ [.dct t ks vs])
  | _, rv => (rv.toW, S)
theorem keepW_ok {F1 H1 : Hp} {ρ1 : List Addr} {S1 : Store} (st : Step F ρ H F1 ρ1 H1) (sr : SRep c F1 H1 ρ1 S1) {v : V} {rv : RV} (vr : VRep c F1 H1 ρ1 H v rv) (b : Bool) :
    ∃ F2 ρ2, Same F1 F2 ∧ ρ1 <+: ρ2 ∧ Step F ρ H F2 ρ2 H1 ∧ SRep c F2 H1 ρ2 (keepW b rv S1).2 ∧ WRep c F2 ρ2 v (keepW b rv S1).1 := by
  have plain : ∃ F2 ρ2, Same F1 F2 ∧ ρ1 <+: ρ2 ∧ Step F ρ H F2 ρ2 H1 ∧ SRep c F2 H1 ρ2 S1 ∧ WRep c F2 ρ2 v rv.toW := by
    obtain ⟨F2, s1, s2, s3, s4⟩ := toW_rep sr st vr
    exact ⟨F2, ρ1, s1, List.prefix_refl _, s2, s3, s4⟩
  cases b with
  | false => exact plain
  | true =>
    cases rv with
    | w w => exact plain
    | own xs =>
      obtain ⟨p, vs, e1, ha, h0, hf, hr, r⟩ := vr
      obtain ⟨s1, s2, s3⟩ := new_cell (cc := .lst (xs.map .d)) st sr ⟨vs, ha, reps_wreps r⟩ h0 hf hr
      exact ⟨F1, ρ1 ++ [p], Same.refl _, List.prefix_append _ _, s1, s2, by rw [e1]; exact s3⟩
    | ownd t ks xs =>
      obtain ⟨p, vs, e1, ha, h0, hf, hr, r⟩ := vr
      obtain ⟨s1, s2, s3⟩ := new_cell (cc := .dct t ks xs) st sr ⟨vs, ha, r⟩ h0 hf hr
      exact ⟨F1, ρ1 ++ [p], Same.refl _, List.prefix_append _ _, s1, s2, by rw [e1]; exact s3⟩
/-- the written arguments; those that the callee changes are cells -/
def evArgsK (R : Rec) (fr : Fr) (σ : Env) : List Bool → List Expr → Store → Out (List W)
  | _, [], S => .ok [] S
  | bs, e :: es, S => (R.E fr σ e S).bind fun v S1 => (evArgsK R fr σ bs.tail es (keepW (bs.headD false) v S1).2).bind fun ws S2 => .ok ((keepW (bs.headD false) v S1).1 :: ws) S2
theorem ja_argsK (hE : ∀ e, PE X e (tE c Xw fun σ S => R.E fr σ e S)) : ∀ (bs : List Bool) (es : List Expr), plainArgs es = true → PA X es (tA c Xw fun σ S => evArgsK R fr σ bs es S)
  | _, [], _ => ⟨fun pos pins s τ H Q I h => pa_nil.run pos pins s τ H Q I (by
      obtain ⟨σ, S, F, ρ, a, q⟩ := h
      have q : QO c Xw τ F ρ H (.ok [] S) _ := q
      exact QO.now (Xw := Xw) a.st q [] .nil)⟩
  | bs, e :: es, hp => by
    obtain ⟨p1, p2⟩ := plain_cons hp
    refine ⟨fun pos pins s τ H Q I h => (pa_cons (hE e) (ja_argsK hE bs.tail es p2) (starEach_plain p1)).run pos pins s τ H Q I ?_⟩
    obtain ⟨σ, S, F, ρ, a, q⟩ := h
    have q : QO c Xw τ F ρ H ((R.E fr σ e S).bind fun v S1 => (evArgsK R fr σ bs.tail es (keepW (bs.headD false) v S1).2).bind fun ws S2 => .ok ((keepW (bs.headD false) v S1).1 :: ws) S2) _ := q
    refine tE_mk a ((QO.bind q).imp fun rv S1 F1 H1 ρ1 st sr q1 v vr => ?_)
    obtain ⟨F2, ρ2, k1, k2, st2, sr2, wr⟩ := keepW_ok st sr vr (bs.headD false)
    exact ⟨σ, _, F2, ρ2, ⟨a.env.mono st2.frz st2.pre, sr2⟩, (QO.bind (q1 st2)).imp fun ws S2 F3 H3 ρ3 st4 sr4 q4 vs wr' => QO.now sr4 (q4 st4) (v :: vs) (.cons (wr.mono st4.frz st4.pre) wr')⟩
end
end Ev
set_option linter.all false
set_option maxHeartbeats 2000000
namespace Ev
open PySem L2

/-! ## exceptions, promises -/
/-- an exception of the n-th class with these fields, as it lies -/
def ExcAt (c : Cs) (F H : Hp) (n : Nat) (fs : List D) (cls : Value) (d : Option Addr) : Prop := cls = .ref (c.ex n) ∧ match fs with
  | [] => d = none
  | _ => ∃ dd vs, d = some dd ∧ H dd = some (.xd ((c.exf n).zip vs)) ∧ (c.exf n).length = vs.length ∧ Reps c F vs fs
def xwOf (c : Cs) (Wx : WX) : XW := fun n fs _ τ F' H' _ => ∀ cls d, ExcAt c F' H' n fs cls d → Wx cls d τ H'
/-- a def's promise -/
def spF (c : Cs) (G : Gm) (R : Rec) (i : Nat) : Sp := fun vs H Q E => (G.fns[i]?).map (fun fi => fi.ps.length) = some vs.length ∧ ∃ ws S F ρ, SRep c F H ρ S ∧ WReps c F ρ vs ws ∧
  QO c (xwOf c fun cls d _ H' => E cls d H') [] F ρ H (callF G R i ws S) fun rv S' F' H' ρ' => ∀ v, VRep c F' H' ρ' H v rv → Q v H'
theorem spF_mk {c : Cs} {G : Gm} {R : Rec} {i : Nat} {fi : FnI} {Wx : WX} {τ : L2.St} {F H : Hp} {ρ : List Addr} {S : Store} {vs : List V} {ws : List W} {Q : VK} (hi : G.fns[i]? = some fi) (hl : vs.length = fi.ps.length) (sr : SRep c F H ρ S) (wr : WReps c F ρ vs ws)
    (h : QO c (xwOf c Wx) τ F ρ H (callF G R i ws S) fun rv S' F' H' ρ' => ∀ v, VRep c F' H' ρ' H v rv → Q v H') : spF c G R i vs H Q (WE Wx τ) := by
  refine ⟨by rw [hi, hl]; rfl, ws, S, F, ρ, sr, wr, ?_⟩
  cases e : callF G R i ws S with
  | ok rv S' =>
    rw [e] at h
    exact h
  | exc n fs S' =>
    rw [e] at h
    exact h
  | bad =>
    rw [e] at h
    exact h

/-- what the text has written, def by def, class by class -/
structure GS (c : Cs) (G : Gm) (mg : Str → Option Value) (fa : Nat → Addr) (fd : Nat → FuncData) (dV : Nat → List Value) : Prop where
  fn : ∀ (i : Nat) (fi : FnI), G.fns[i]? = some fi → ∃ (oc : Value) (od : Option Addr) (x q : Str) (params : Arguments) (dv kV doc pm : Value) (an : Option Addr) (cdv ct : Value) (osl : Array (Option Value)),
    fd i = PySem.W.fnOf x q params (defBody fi.st) (defScope fi.st) dv kV doc pm an cdv ct ∧ c.K.lookup (fa i) = some ⟨oc, od, .func (fd i), osl⟩ ∧ PySem.W.codeIn c.K cdv q = true
  kp : ∀ (i : Nat) (fi : FnI), G.fns[i]? = some fi → PySem.W.keepIn c.K (.ref (fa i)) = true
  sc : ∀ (i : Nat) (fi : FnI), G.fns[i]? = some fi → FnScope fi.N fi.ps (defScope fi.st)
  bnd : ∀ (i : Nat) (fi : FnI) (k : Nat), G.fns[i]? = some fi → fi.kwo = false → k ≤ fi.dfl.length → Binds c.K (fd i) fi.ps ((dV i).drop k)
  dfl : ∀ (i : Nat) (fi : FnI), G.fns[i]? = some fi → ∃ dvs, Vals dvs (dV i) ∧ Reps c (fun _ => none) dvs fi.dfl
  mgf : ∀ (x : Str) (i : Nat), G.names.lookup x = some (.fn i) → mg x = some (.ref (fa i))
  mgc : ∀ (x : Str) (k : Nat), G.names.lookup x = some (.cls k) → mg x = some (.ref (c.cl k))
  cls : ∀ (k : Nat) (ci : ClsI), G.clss[k]? = some ci → Cls c.K (c.cl k)
  fld : ∀ (k : Nat) (ci : ClsI) (f : Str), G.clss[k]? = some ci → f ∈ ci.flds → NoAttr c.K (c.cl k) f
  mth : ∀ (k : Nat) (ci : ClsI) (m : Str) (i : Nat), G.clss[k]? = some ci → ci.meths.lookup m = some i → Meth c.K (c.cl k) m (fa i)
  mnf : ∀ (k : Nat) (ci : ClsI) (m : Str) (i : Nat), G.clss[k]? = some ci → ci.meths.lookup m = some i → m ∉ ci.flds
  prp : ∀ (k : Nat) (ci : ClsI) (m : Str) (i : Nat), G.clss[k]? = some ci → ci.props.lookup m = some i → ∃ p, PropOf c.K (c.cl k) m p (fa i)
  mkc : ∀ (k : Nat) (ci : ClsI), G.clss[k]? = some ci → Mk c.K (c.cl k) (fa ci.init)

/-- the defs of the text keep their promises -/
def FnsOk (c : Cs) (G : Gm) (R : Rec) (P : Program) (w : World) (mg : Str → Option Value) (base : Heap) (k : Nat) (fa : Nat → Addr) (fd : Nat → FuncData) : Prop :=
  ∀ (i : Nat) (fi : FnI), G.fns[i]? = some fi → FnOk P w c.K mg base (L2.CX P w) k (fa i) (fd i) fi.ps (spF c G R i)

section
variable {c : Cs} {G : Gm} {fr : Fr} {X : Cx} {Wx : WX} {R : Rec} {fa : Nat → Addr} {fd : Nat → FuncData} {dV : Nat → List Value} {k : Nat}

/-- the defaults that lack behind m arguments -/
def lack (fi : FnI) (m : Nat) : List W := (fi.dfl.drop (fi.dfl.length - (fi.ps.length - m))).map .d
def callX (G : Gm) (R : Rec) (i m : Nat) (ws : List W) (S : Store) : Out RV := match G.fns[i]? with
  | some fi => if fi.kwo = false ∧ m + (fi.dfl.length - (fi.dfl.length - (fi.ps.length - m))) = fi.ps.length ∧ ws.length = m then callF G R i (ws ++ lack fi m) S else .bad
  | none => .bad
theorem lack_reps (gs : GS c G X.mg fa fd dV) {i : Nat} {fi : FnI} (hi : G.fns[i]? = some fi) (m : Nat) : ∃ dvs : List V, Vals dvs ((dV i).drop (fi.dfl.length - (fi.ps.length - m))) ∧ dvs.length = fi.dfl.length - (fi.dfl.length - (fi.ps.length - m)) ∧ ∀ F ρ, WReps c F ρ dvs (lack fi m) := by
  obtain ⟨dvs, h1, h2⟩ := gs.dfl i fi hi
  refine ⟨dvs.drop (fi.dfl.length - (fi.ps.length - m)), h1.drop _, by rw [List.length_drop, h2.length], fun F ρ => ?_⟩
  exact reps_wreps ((h2.drop _).mono (same_none F))
theorem Paired.len {α β : Type} {r : α → β → Prop} {xs : List α} {ys : List β} (h : Paired r xs ys) : xs.length = ys.length := by
  induction h with
  | nil => rfl
  | cons _ _ ih => rw [List.length_cons, List.length_cons, ih]

/-- which parameters the i-th def changes -/
def flagsOf (G : Gm) (i m : Nat) : List Bool := match G.fns[i]? with
  | some fi => (fi.ps.map fi.cells.contains).drop m
  | none => []
/-- f(e, ..) -/
theorem je_call {Rc : Rec} (ok : XOk c G fr X) (gs : GS c G X.mg fa fd dV) (tk : Takes X Wx) (hF : FnsOk c G Rc X.prog X.w X.mg X.base k fa fd) (hr : Room k X.A) {x : Str} {i : Nat} {fi : FnI} (hg : isGl fr x = true) (hx : G.names.lookup x = some (.fn i)) (hi : G.fns[i]? = some fi) (hkw : fi.kwo = false)
    {es : List Expr} {p pos : Pos} (bs : List Bool) (hp : plainArgs es = true) (hE : ∀ e, PE X e (tE c (xwOf c Wx) fun σ S => R.E fr σ e S)) :
    PE X (.Call (.Name x p) es [] pos) (tE c (xwOf c Wx) fun σ S => (evArgsK R fr σ bs es S).bind fun ws S1 => callX G Rc i es.length ws S1) := by
  obtain ⟨g1, g2⟩ := isGl_gl ok hg
  obtain ⟨dvs, d1, d2, d3⟩ := lack_reps gs hi es.length
  have hF' := hF i fi hi
  have hb : Binds X.K (fd i) fi.ps ((dV i).drop (fi.dfl.length - (fi.ps.length - es.length))) := by
    rw [ok.K]
    exact gs.bnd i fi _ hi hkw (Nat.sub_le _ _)
  have hk : PySem.W.keepIn X.K (.ref (fa i)) = true := by
    rw [ok.K]
    exact gs.kp i fi hi
  have hF2 : FnOk X.prog X.w X.K X.mg X.base (L2.CX X.prog X.w) k (fa i) (fd i) fi.ps (spF c G Rc i) := by
    rw [ok.K]
    exact hF'
  have read : ∀ {t : TA} (τ : L2.St) (H : Hp) (Q : VK), (∀ Q', tA c (xwOf c Wx) (fun σ S => evArgsK R fr σ bs es S) τ H Q' → t τ H Q') → tE c (xwOf c Wx) (fun σ S => (evArgsK R fr σ bs es S).bind fun ws S1 => callX G Rc i es.length ws S1) τ H Q → tCallSD (spF c G Rc i) dvs (WE Wx) t τ H Q := by
    intro t τ H Q ht h
    obtain ⟨σ, S, F, ρ, a, q⟩ := tE_un h
    refine ht _ ⟨σ, S, F, ρ, a, (QO.bind q).imp fun ws S1 F1 H1 ρ1 st sr q0 vs wr => ?_⟩
    have q1 := q0 st
    unfold callX at q1
    rw [hi] at q1
    dsimp only at q1
    split at q1
    · rename_i hl
      refine spF_mk hi ?_ sr (wr.app (d3 F1 ρ1)) (q1.imp fun rv S2 F2 H2 ρ2 st2 sr2 q2 v vr => q2 v (vr.back st.back))
      rw [List.length_append, Paired.len wr, d2, hl.2.2]
      exact hl.2.1
    · exact q1.elim
  cases es with
  | cons e es =>
    obtain ⟨p1, p2⟩ := plain_cons hp
    exact je_imp (pe_callSD hF2 hr g1 (gs.mgf x i hx) hk hb d1 (fun σ => passAt tk σ) (ja_argsK hE bs _ hp) g2 (starEach_plain p1) (backTo_plain p2)) fun τ H Q h => read τ H Q (fun _ q => q) h
  | nil =>
    refine ⟨fun pins s τ H Q I h => ?_⟩
    refine wpAny_Call_Name_kw (ld_glob I g1 (gs.mgf x i hx) ?_ g2)
    refine PySem.W.callWith_K0 I.kIn hk ?_
    refine run_fnSD (us := []) (vs := []) hF2 hr hb d1 (passAt tk τ) I .nil ?_
    obtain ⟨σ, S, F, ρ, a, q⟩ := tE_un h
    have q1 : QO c (xwOf c Wx) τ F ρ H (callX G Rc i 0 [] S) _ := q
    unfold callX at q1
    rw [hi] at q1
    dsimp only at q1
    split at q1
    · rename_i hl
      refine spF_mk hi ?_ a.st (d3 F ρ) q1
      rw [List.nil_append, d2]
      have := hl.2.1
      simp only [List.length_nil] at this ⊢
      omega
    · exact q1.elim
end
end Ev
set_option linter.all false
set_option maxHeartbeats 2000000
namespace Ev
open PySem L2

/-! ## fields, properties, methods, makings -/
def noSuper : Expr → Bool
  | .Call (.Name x _) [] [] _ => x != "super"
  | _ => true
theorem attrBase {o : Expr} {m : Str} {env : PySem.Env} {wh : Sem Value} (h : noSuper o = true) : attributeBase o m env wh = wh := by
  unfold attributeBase
  split
  · rename_i id _ pos
    have h1 : (id != ("super" : Str)) = true := h
    rw [h1]
    rfl
  · rfl
theorem starEach_all : ∀ {es : List Expr} {env : PySem.Env} {pos : Pos}, plainArgs es = true → (backTo pos (starEach es env)).all (fun x => !x.1) = true
  | [], _, _, _ => rfl
  | e :: es, env, pos, h => by
    obtain ⟨p1, p2⟩ := plain_cons h
    rw [starEach_plain p1]
    show (true && (backTo pos (starEach es env)).all (fun x => !x.1)) = true
    rw [starEach_all p2]
    rfl
theorem eval_meth {o : Expr} {m : Str} {apos pos : Pos} {es : List Expr} {env : PySem.Env} (h1 : noSuper o = true) (h2 : plainArgs es = true) (h3 : es.length < 30) (h4 : (apos.endLine == pos.line) = true) :
    eval (.Call (.Attribute o m apos) es [] pos) env = (do
      let ov ← eval o env
      standAt apos.atName
      let (f, first) ← holding [ov] (getMethod ov m (do return (← importBound o env).getD true))
      callWith pos f first (backTo pos (starEach es env)) (backToKw pos (keywordEach [] env))) := by
  have e : eval (.Call (.Attribute o m apos) es [] pos) env = (do
      let ov ← attributeBase o m env (eval o env)
      standAt apos.atName
      methodCall o m apos pos env ov (es.length + 0) (backTo pos (starEach es env)) (backToKw pos (keywordEach [] env))) := rfl
  rw [e, attrBase h1]
  have few : methodCallForm (es.length + 0) (backTo pos (starEach es env)) (backToKw pos (keywordEach [] env)) = true := by
    unfold methodCallForm
    rw [starEach_all h2]
    show (true && decide (es.length + 0 + 0 < 30)) = true
    rw [decide_eq_true (by omega)]
    rfl
  have cp : methodCallPos true o env apos pos = pure pos := by
    unfold methodCallPos
    rw [h4]
    rfl
  congr 1
  funext ov
  congr 1
  funext u
  unfold methodCall calleeOf
  rw [few]
  simp only [if_true, cp]
  congr 1

section
variable {c : Cs} {G : Gm} {fr : Fr} {X : Cx} {Wx : WX} {R : Rec} {fa : Nat → Addr} {fd : Nat → FuncData} {dV : Nat → List Value} {k : Nat}

/-- an instance's field -/
def fieldOf (S : Store) (f : Str) : RV → Option W
  | .w (.d (.ins _ fs vs)) => ((fs.zip vs).lookup f).map .d
  | .w (.ref n) => match S[n]? with
    | some (.ins _ fs) => fs.lookup f
    | _ => none
  | _ => none
theorem lookup_zip {F : Hp} (f : Str) : ∀ {fs : List Str} {vs : List V} {xs : List D} {x : D}, Reps c F vs xs → (fs.zip xs).lookup f = some x → ∃ v, (fs.zip vs).lookup f = some v ∧ Rep c F v x
  | [], vs, xs, x, _, h => by cases h
  | g :: fs, _, _, x, .nil, h => by cases h
  | g :: fs, v :: vs, y :: xs, x, .cons hv r, h => by
    have h : (((g, y) :: fs.zip xs) : List (Str × D)).lookup f = some x := h
    show ∃ v', (((g, v) :: fs.zip vs) : List (Str × V)).lookup f = some v' ∧ _
    rw [List.lookup_cons] at h ⊢
    split at h
    · cases h
      exact ⟨v, rfl, hv⟩
    · exact lookup_zip f r h
theorem lookup_fs {F : Hp} {ρ : List Addr} (f : Str) : ∀ {vs : List (Str × V)} {ws : List (Str × W)} {w : W}, FsRep c F ρ vs ws → ws.lookup f = some w → ∃ v, vs.lookup f = some v ∧ WRep c F ρ v w
  | _, _, _, .nil, h => by cases h
  | _, _, w, .cons (f := g) (v := v) hv r, h => by
    rw [List.lookup_cons] at h ⊢
    split at h
    · cases h
      exact ⟨v, rfl, hv⟩
    · exact lookup_fs f r h
theorem lookup_fs_none {F : Hp} {ρ : List Addr} (f : Str) : ∀ {vs : List (Str × V)} {ws : List (Str × W)}, FsRep c F ρ vs ws → ws.lookup f = none → vs.lookup f = none
  | _, _, .nil, h => rfl
  | _, _, .cons (f := g) (v := v) hv r, h => by
    rw [List.lookup_cons] at h ⊢
    split at h
    · cases h
    · exact lookup_fs_none f r h
/-- an instance lies there -/
theorem ins_at {F H H₀ : Hp} {ρ : List Addr} {S : Store} (sr : SRep c F H ρ S) {v : V} {rv : RV} (h : VRep c F H ρ H₀ v rv) {n : Nat} (e : clsOf S rv = some n) :
    ∃ a dx fs, v = .ref a ∧ H a = some (.ins (c.cl n) dx fs) ∧ (∀ f w, fieldOf S f rv = some w → ∃ z, fs.lookup f = some z ∧ WRep c F ρ z w) := by
  unfold clsOf at e
  split at e
  · rename_i m gs xs
    cases e
    cases h with
    | d r =>
      cases r with
      | @ins a dx _ _ vs _ ha hl r =>
        refine ⟨a, dx, _, rfl, sr.sub _ _ ha, fun f w hw => ?_⟩
        have hw : ((gs.zip xs).lookup f).map W.d = some w := hw
        cases q : (gs.zip xs).lookup f with
        | none =>
          rw [q] at hw
          cases hw
        | some x =>
          rw [q] at hw
          cases hw
          obtain ⟨z, h1, h2⟩ := lookup_zip f r q
          exact ⟨z, h1, .d h2⟩
  · rename_i n'
    split at e
    · rename_i m fs hs
      cases e
      cases h with
      | ref hn =>
        obtain ⟨dx, vs, ha, r⟩ := sr.cell n' _ _ hs hn
        refine ⟨_, dx, vs, rfl, ha, fun f w hw => ?_⟩
        have hw : (match S[n']? with | some (.ins _ fs) => fs.lookup f | _ => none) = some w := hw
        rw [hs] at hw
        exact lookup_fs f r hw
    · cases e
  · cases e
/-- a getter raises nothing -/
def noExc : Out RV → Out RV
  | .exc _ _ _ => .bad
  | o => o
/-- e.f -/
def attrO (G : Gm) (R : Rec) (f : Str) (v : RV) (S : Store) : Out RV := match clsOf S v with
  | some n => match G.clss[n]? with
    | some ci => if f ∈ ci.flds then opt ((fieldOf S f v).map .w) S
      else match ci.props.lookup f, v with
        | some i, .w w => noExc (callX G R i 1 [w] S)
        | _, _ => .bad
    | none => .bad
  | none => .bad
/-- a getter's call, as a value -/
theorem run_prop (ok : XOk c G fr X) (gs : GS c G X.mg fa fd dV) (tk : Takes X Wx) (hF : FnsOk c G R X.prog X.w X.mg X.base k fa fd) (hr : Room (k + 1) X.A) {n : Nat} {ci : ClsI} (hc : G.clss[n]? = some ci) {f : Str} {i : Nat} (hp : ci.props.lookup f = some i)
    {pins : List (Addr × Obj)} {s : Shared} {τ : L2.St} {H : Hp} {Q : VK} {a dx : Addr} {fs : List (Str × V)} (I : L2.Inv X pins τ H s) (ea : H a = some (.ins (c.cl n) dx fs)) {F : Hp} {ρ : List Addr} {S : Store} (sr : SRep c F H ρ S) {w : W} (hw : WRep c F ρ (.ref a) w) {b : Bool}
    (q0 : QO c (xwOf c Wx) τ F ρ H (noExc (callX G R i 1 [w] S)) fun rv S' F' H' ρ' => ∀ v, VRep c F' H' ρ' H v rv → Q v H') :
    wpAny (model X.prog X.w) X.A (getAttr (.ref a) f b) (EP X pins τ Q) X.xe s := by
  have q : QO c (xwOf c fun _ _ _ _ => False) τ F ρ H (callX G R i 1 [w] S) fun rv S' F' H' ρ' => ∀ v, VRep c F' H' ρ' H v rv → Q v H' := by
    cases e : callX G R i 1 [w] S with
    | ok rv S' =>
      rw [e] at q0
      exact q0
    | exc n fs S' =>
      rw [e] at q0
      exact q0.elim
    | bad =>
      rw [e] at q0
      exact q0.elim
  clear q0
  unfold callX at q
  cases hi : G.fns[i]? with
  | none =>
    rw [hi] at q
    exact q.elim
  | some fi =>
    rw [hi] at q
    dsimp only at q
    split at q
    · rename_i hl
      obtain ⟨dvs, d1, d2, d3⟩ := lack_reps gs hi 1
      have sp : spF c G R i (.ref a :: dvs) H Q (WE (fun _ _ _ _ => False) τ) := spF_mk hi (by rw [List.length_cons, d2]; have := hl.2.1; omega) sr (WReps.app (.cons hw .nil) (d3 F ρ)) q
      obtain ⟨p, hpr⟩ := gs.prp n ci f i hc hp
      obtain ⟨mA, O, _, _, _, _⟩ := ins_get I.hok ea
      obtain ⟨od, J, _⟩ := O.look
      have hcl := gs.cls n ci hc
      have hF2 := hF i fi hi
      have hb := gs.bnd i fi (fi.dfl.length - (fi.ps.length - 1)) hi hl.1 (Nat.sub_le _ _)
      obtain ⟨rest, hrec⟩ := hpr.rec_
      have I1 := I.tok (s.toks + 1)
      have hlen : ([Value.ref a] ++ (dV i).drop (fi.dfl.length - (fi.ps.length - 1))).length = fi.ps.length := by
        have e := hF2.len _ _ _ _ sp
        have e2 := Paired.len d1
        rw [List.length_cons] at e
        rw [List.length_append, List.length_singleton]
        omega
      have hcs : (PySem.W.clsIn c.K (c.cl n)).isSome = true := by
        obtain ⟨cd, hc, _⟩ := PySem.W.any_some hcl.hd
        rw [hc]
        rfl
      have kin : c.K.In s.heap := by rw [← ok.K]; exact I.kIn
      refine PySem.W.get_bind kin J (PySem.W.plainGet_of (hcl.get f)).1 (PySem.W.findObj_data hcs hpr.at_ hpr.get hpr.tak) (PySem.W.plainGet_of (hcl.get f)).2 (wpAny_call (PySem.W.prop_get (s := { s with toks := s.toks + 1 }) kin hrec ?_))
      have e0 := I1.env0.in1
      rw [ok.K] at e0
      refine codeAny_mono (hF2.run X.A.in1 X.stack { s with toks := s.toks + 1 } H ⟨[.ref a], []⟩ (.ref a :: (dV i).drop (fi.dfl.length - (fi.ps.length - 1))) (.ref a :: dvs) Q (WE (fun _ _ _ _ => False) τ) hr.in1 e0 (hb _ [.ref a] kin hlen) (.cons rfl d1) sp) fun r s' hq => ?_
      cases r with
      | error er =>
        obtain ⟨_, _, _, _, _, _, _, _, _, _, _, _, z⟩ := hq
        exact z.elim
      | ok fl =>
        cases fl with
        | ret u =>
          obtain ⟨v, H', I3, rv, q3⟩ := I1.after hq
          show wpAny _ _ (handedOut u) _ _ _
          rw [PySem.W.handedOut_of (handed_of rv)]
          exact wpAny_pure ⟨v, H', I3, rv, q3⟩
        | next => exact False.elim hq
        | brk => exact False.elim hq
        | cont => exact False.elim hq
    · exact q.elim
theorem je_attr (ok : XOk c G fr X) (gs : GS c G X.mg fa fd dV) (tk : Takes X Wx) (hF : FnsOk c G R X.prog X.w X.mg X.base k fa fd) (hr : Room (k + 1) X.A) {o : Expr} {f : Str} {pos : Pos} (hs : noSuper o = true) {fo : Env → Store → Out RV} (ho : PE X o (tE c (xwOf c Wx) fo)) :
    PE X (.Attribute o f pos) (tE c (xwOf c Wx) fun σ S => (fo σ S).bind fun v S1 => attrO G R f v S1) := by
  refine ⟨fun pins s τ H Q I h => ?_⟩
  obtain ⟨σ, S, F, ρ, a, q⟩ := tE_un h
  refine attr_of (attrBase hs) (thn (ho.run pins s τ H (fun v H1 => ∃ S1 F1 ρ1 rv, Step F ρ H F1 ρ1 H1 ∧ SRep c F1 H1 ρ1 S1 ∧ VRep c F1 H1 ρ1 H v rv ∧ QO c (xwOf c Wx) τ F1 ρ1 H1 (attrO G R f rv S1) fun rv S' F' H' ρ' => ∀ v, VRep c F' H' ρ' H v rv → Q v H') I
    (tE_mk a ((QO.bind q).imp fun rv S1 F1 H1 ρ1 st sr q0 v vr => ⟨S1, F1, ρ1, rv, st, sr, vr, q0 st⟩))) fun u s1 ⟨v, H1, I1, r1, S1, F1, ρ1, rv, st, sr, vr, q1⟩ => ?_)
  unfold attrO at q1
  cases hc : clsOf S1 rv with
  | none =>
    rw [hc] at q1
    exact q1.elim
  | some n =>
    rw [hc] at q1
    dsimp only at q1
    obtain ⟨a, dx, fs, rfl, ea, hfs⟩ := ins_at sr vr hc
    obtain rfl : u = Value.ref a := r1
    cases hci : G.clss[n]? with
    | none =>
      rw [hci] at q1
      exact q1.elim
    | some ci =>
      rw [hci] at q1
      dsimp only at q1
      split at q1
      · rename_i hf
        cases hw : fieldOf S1 f rv with
        | none =>
          rw [hw] at q1
          exact q1.elim
        | some w =>
          rw [hw] at q1
          obtain ⟨z, hz, rz⟩ := hfs f w hw
          have hcl : Cls X.K (c.cl n) := by rw [ok.K]; exact gs.cls n ci hci
          have hno : NoAttr X.K (c.cl n) f := by rw [ok.K]; exact gs.fld n ci f hci hf
          exact getattr_ok I1 ea hcl hno hz fun u' s2 I2 ru => ⟨z, H1, I2, ru, QO.now sr q1 z rz⟩
      · split at q1
        · rename_i i w hp
          exact run_prop ok gs tk hF hr hci hp I1 ea sr vr (q1.imp fun rv S2 F2 H2 ρ2 st2 sr2 q2 v vr2 => q2 v (vr2.back st.back))
        · exact q1.elim
end
end Ev
set_option linter.all false
set_option maxHeartbeats 2000000
namespace Ev
open PySem L2

section
variable {c : Cs} {G : Gm} {fr : Fr} {X : Cx} {Wx : WX} {R : Rec} {fa : Nat → Addr} {fd : Nat → FuncData} {dV : Nat → List Value} {k : Nat}

/-- o.m(..): the def that it is -/
def methOf (G : Gm) (m : Str) (S : Store) (v : RV) : Option (Nat × W) := match clsOf S v, v with
  | some n, .w w => match G.clss[n]? with
    | some ci => (ci.meths.lookup m).map fun i => (i, w)
    | none => none
  | _, _ => none
theorem wreps_one {F : Hp} {ρ : List Addr} {v : V} {w : W} (h : WRep c F ρ v w) : WReps c F ρ [v] [w] := .cons h .nil
/-- a def's call by its values, so many of them written -/
theorem run_X (ok : XOk c G fr X) (gs : GS c G X.mg fa fd dV) (tk : Takes X Wx) (hF : FnsOk c G R X.prog X.w X.mg X.base k fa fd) (hr : Room k X.A) {i m : Nat} {pins : List (Addr × Obj)} {s : Shared} {τ : L2.St} {H : Hp} {Q : VK} (I : L2.Inv X pins τ H s)
    {F : Hp} {ρ : List Addr} {S : Store} (sr : SRep c F H ρ S) {ws : List W} {vs : List V} {us : List Value} (wr : WReps c F ρ vs ws) (rv : Vals vs us)
    (q : QO c (xwOf c Wx) τ F ρ H (callX G R i m ws S) fun rv S' F' H' ρ' => ∀ v, VRep c F' H' ρ' H v rv → Q v H') : wpAny (model X.prog X.w) X.A (call (.ref (fa i)) us) (EP X pins τ Q) X.xe s := by
  unfold callX at q
  cases hi : G.fns[i]? with
  | none =>
    rw [hi] at q
    exact q.elim
  | some fi =>
    rw [hi] at q
    dsimp only at q
    split at q
    · rename_i hl
      obtain ⟨dvs, d1, d2, d3⟩ := lack_reps gs hi m
      have hF2 : FnOk X.prog X.w X.K X.mg X.base (L2.CX X.prog X.w) k (fa i) (fd i) fi.ps (spF c G R i) := by
        rw [ok.K]
        exact hF i fi hi
      have hb : Binds X.K (fd i) fi.ps ((dV i).drop (fi.dfl.length - (fi.ps.length - m))) := by
        rw [ok.K]
        exact gs.bnd i fi _ hi hl.1 (Nat.sub_le _ _)
      refine run_fnSD hF2 hr hb d1 (passAt tk τ) I rv (spF_mk hi ?_ sr (wr.app (d3 F ρ)) q)
      rw [List.length_append, Paired.len wr, d2, hl.2.2]
      exact hl.2.1
    · exact q.elim
theorem methOf_ok {F H H₀ : Hp} {ρ : List Addr} {S : Store} (gs : GS c G X.mg fa fd dV) (sr : SRep c F H ρ S) {v : V} {rv : RV} (h : VRep c F H ρ H₀ v rv) {m : Str} {i : Nat} {w : W} (e : methOf G m S rv = some (i, w)) :
    ∃ a dx fs n ci, v = .ref a ∧ H a = some (.ins (c.cl n) dx fs) ∧ G.clss[n]? = some ci ∧ ci.meths.lookup m = some i ∧ rv = .w w ∧ WRep c F ρ v w := by
  unfold methOf at e
  split at e
  · rename_i n w' hn
    split at e
    · rename_i ci hci
      cases q : ci.meths.lookup m with
      | none =>
        rw [q] at e
        cases e
      | some j =>
        rw [q] at e
        cases e
        obtain ⟨a, dx, fs, e1, e2, _⟩ := ins_at sr h hn
        exact ⟨a, dx, fs, n, ci, e1, e2, hci, q, rfl, h⟩
    · cases e
  · cases e
/-- no field of an instance is called as a method -/
def noFld (S : Store) (m : Str) (v : RV) : Bool := match v with
  | .w (.d (.ins _ fs _)) => !(fs.contains m)
  | .w (.ref n) => match S[n]? with
    | some (.ins _ fs) => !(fs.map (·.1)).contains m
    | _ => false
  | _ => false
theorem lookup_none {α : Type} {m : Str} : ∀ {l : List (Str × α)}, (l.map (·.1)).contains m = false → l.lookup m = none
  | [], _ => rfl
  | (f, x) :: l, h => by
    rw [List.map_cons, List.contains_cons, Bool.or_eq_false_iff] at h
    rw [List.lookup_cons, h.1]
    exact lookup_none h.2
theorem lookup_zip_none {m : Str} : ∀ {fs : List Str} {vs : List V}, fs.contains m = false → (fs.zip vs).lookup m = none
  | [], _, _ => rfl
  | _ :: _, [], _ => rfl
  | f :: fs, v :: vs, h => by
    rw [List.contains_cons, Bool.or_eq_false_iff] at h
    show (((f, v) :: fs.zip vs) : List (Str × V)).lookup m = none
    rw [List.lookup_cons, h.1]
    exact lookup_zip_none h.2
theorem fs_names {F : Hp} {ρ : List Addr} : ∀ {vs : List (Str × V)} {ws : List (Str × W)}, FsRep c F ρ vs ws → vs.map (·.1) = ws.map (·.1)
  | _, _, .nil => rfl
  | _, _, .cons _ r => by rw [List.map_cons, List.map_cons, fs_names r]
theorem noFld_ok {F H H₀ : Hp} {ρ : List Addr} {S : Store} (sr : SRep c F H ρ S) {a : Addr} {rv : RV} (h : VRep c F H ρ H₀ (.ref a) rv) {m : Str} (e : noFld S m rv = true) {C dx : Addr} {fs : List (Str × V)} (ha : H a = some (.ins C dx fs)) : fs.lookup m = none := by
  unfold noFld at e
  split at e
  · rename_i n gs xs
    cases h with
    | d r =>
      cases r with
      | ins hf hl r =>
        have e1 := sr.sub _ _ hf
        rw [ha] at e1
        cases e1
        exact lookup_zip_none (by simpa using e)
  · rename_i n
    split at e
    · rename_i k gs hs
      cases h with
      | ref hn =>
        obtain ⟨dx', vs, h1, r⟩ := sr.cell n _ _ hs hn
        rw [ha] at h1
        cases h1
        exact lookup_none (by rw [fs_names r]; simpa using e)
    · cases e
  · cases e
/-- o.m(e, ..), m a def of o's class -/
def methO (G : Gm) (R : Rec) (m : Str) (n : Nat) (f : Nat → Store → Out (List W)) (v : RV) (S : Store) : Out RV := match methOf G m S v with
  | some (i, w) => if noFld S m v then (f i S).bind fun ws S2 => callX G R i (n + 1) (w :: ws) S2 else .bad
  | none => .bad
theorem run_meth {Rc : Rec} (ok : XOk c G fr X) (gs : GS c G X.mg fa fd dV) (tk : Takes X Wx) (hF : FnsOk c G Rc X.prog X.w X.mg X.base k fa fd) (hr : Room k X.A) (hE : ∀ e, PE X e (tE c (xwOf c Wx) fun σ S => R.E fr σ e S))
    {o : Expr} {m : Str} {apos pos : Pos} {es : List Expr} (h1 : noSuper o = true) (h2 : plainArgs es = true) (h3 : es.length < 30) (h4 : (apos.endLine == pos.line) = true)
    {pins : List (Addr × Obj)} {s : Shared} {τ : L2.St} {H : Hp} {Q : VK} (I : L2.Inv X pins τ H s) {fo : Env → Store → Out RV} (ho : PE X o (tE c (xwOf c Wx) fo)) {σ : Env} {S : Store} {F : Hp} {ρ : List Addr} (a : At c σ S τ F H ρ)
    (q : QO c (xwOf c Wx) τ F ρ H ((fo σ S).bind fun v S1 => methO G Rc m es.length (fun i => evArgsK R fr σ (flagsOf G i 1) es) v S1) fun rv S' F' H' ρ' => ∀ v, VRep c F' H' ρ' H v rv → Q v H') :
    wpAny (model X.prog X.w) X.A (eval (.Call (.Attribute o m apos) es [] pos) X.env) (EP X pins τ Q) X.xe s := by
  refine PySem.W.methodCall_KW (thn (ho.run pins s τ H (fun v H1 => ∃ S1 F1 ρ1 rv, Step F ρ H F1 ρ1 H1 ∧ SRep c F1 H1 ρ1 S1 ∧ VRep c F1 H1 ρ1 H v rv ∧ QO c (xwOf c Wx) τ F1 ρ1 H1 (methO G Rc m es.length (fun i => evArgsK R fr σ (flagsOf G i 1) es) rv S1) fun rv S' F' H' ρ' => ∀ v, VRep c F' H' ρ' H v rv → Q v H') I
    (tE_mk a ((QO.bind q).imp fun rv S1 F1 H1 ρ1 st sr q0 v vr => ⟨S1, F1, ρ1, rv, st, sr, vr, q0 st⟩))) fun u s1 ⟨v, H1, I1, r1, S1, F1, ρ1, rv, st, sr, vr, q1⟩ => ?_) (eval_meth h1 h2 h3 h4)
  unfold methO at q1
  cases hm : methOf G m S1 rv with
  | none =>
    rw [hm] at q1
    exact q1.elim
  | some p =>
    obtain ⟨i, w⟩ := p
    rw [hm] at q1
    dsimp only at q1
    split at q1
    · rename_i hnf
      obtain ⟨b, dx, fs, n, ci, rfl, ea, hci, hmi, _, wrep⟩ := methOf_ok gs sr vr hm
      obtain rfl : u = Value.ref b := r1
      have hcl : Cls X.K (c.cl n) := by rw [ok.K]; exact gs.cls n ci hci
      have hme : Meth X.K (c.cl n) m (fa i) := by rw [ok.K]; exact gs.mth n ci m i hci hmi
      refine getmeth_ok I1 ea hcl hme (noFld_ok sr vr hnf ea) ?_
      have a1 := a.step st sr
      cases es with
      | nil =>
        refine PySem.W.callWith_K0 (first := [.ref b]) I1.kIn hme.kp (run_X (m := 1) (vs := [.ref b]) (us := [.ref b]) ok gs tk hF hr I1 sr (wreps_one wrep) (.cons rfl .nil) ?_)
        have q2 : QO c (xwOf c Wx) τ F1 ρ1 H1 (callX G Rc i 1 [w] S1) _ := q1
        exact q2.imp fun rv S2 F2 H2 ρ2 st2 sr2 q3 v vr2 => q3 v (vr2.back st.back)
      | cons e es =>
        obtain ⟨p1, p2⟩ := plain_cons h2
        refine PySem.W.callWith_K (first := [.ref b]) (h₀ := X.base) I1.ok.mod.kin hme.kp (thn ((ja_argsK hE (flagsOf G i 1) (e :: es) h2).run pos pins s1 τ H1 (fun vs H2 => ∃ S2 F2 ρ2 ws, Step F1 ρ1 H1 F2 ρ2 H2 ∧ SRep c F2 H2 ρ2 S2 ∧ WReps c F2 ρ2 vs ws ∧ QO c (xwOf c Wx) τ F2 ρ2 H2 (callX G Rc i ((e :: es).length + 1) (w :: ws) S2) fun rv S' F' H' ρ' => ∀ v, VRep c F' H' ρ' H v rv → Q v H') I1
          ⟨σ, S1, F1, ρ1, a1, (QO.bind q1).imp fun ws S2 F2 H2 ρ2 st2 sr2 q2 vs wr => ⟨S2, F2, ρ2, ws, st2, sr2, wr, q2 st2⟩⟩) fun us s2 ⟨vs, H2, I2, r, S2, F2, ρ2, ws, st2, sr2, wr, q2⟩ => ⟨I2.kIn, ?_⟩) (starEach_plain p1) (backTo_plain p2)
        exact run_X (m := (e :: es).length + 1) (vs := .ref b :: vs) (us := .ref b :: us) ok gs tk hF hr I2 sr2 (.cons (wrep.mono st2.frz st2.pre) wr) (.cons rfl r) (q2.imp fun rv S3 F3 H3 ρ3 st3 sr3 q3 v vr2 => q3 v (vr2.back (st.trans st2).back))
    · exact q1.elim

end
end Ev
set_option linter.all false
set_option maxHeartbeats 2000000
namespace Ev
open PySem L2

/-! ## a store of one's own, and what is handed on -/
section
variable {c : Cs} {G : Gm}
theorem srep_nil {F H : Hp} (s : Same F H) : SRep c F H [] [] := ⟨s, rfl, List.nodup_nil, fun a h => (by cases h), fun n cc a h => (by simp at h)⟩
/-- what is behind a run over its own store, for the caller: r₀ are the cells that it began with, all new -/
theorem own_step {F H H₁ F' H' : Hp} {ρ r₀ ρ' : List Addr} {S : Store} (sr : SRep c F H ρ S) (hk : ∀ q o, H q = some o → H₁ q = some o) (hr : ∀ q ∈ r₀, H q = none) (st : Step F r₀ H₁ F' ρ' H') (hf : ∀ q o, H₁ q = some o → H q = some o ∨ H q = none)
    (sub : Same F' H') : Step F ρ H F' ρ H' ∧ SRep c F' H' ρ S := by
  have keep : ∀ q o, H q = some o → H' q = some o := fun q o h => st.keep q o (hk q o h) fun hm => by
    rw [hr q hm] at h
    cases h
  have back : ∀ q, H₁ q = none → H q = none := fun q h => by
    cases e : H q with
    | none => rfl
    | some o =>
      rw [hk q o e] at h
      cases h
  have newF : ∀ q o, F' q = some o → F q = some o ∨ H q = none := fun q o h => by
    rcases st.newF q o h with z | z
    · exact .inl z
    · exact .inr (back q z)
  refine ⟨⟨st.frz, List.prefix_refl _, newF, fun q h => .inl h, fun q o h _ => keep q o h, fun q o h => ⟨o, keep q o h⟩⟩, sr.on st.frz sub (fun a ha => ?_) fun a _ o h => keep a o h⟩
  cases e : F' a with
  | none => rfl
  | some u =>
    rcases newF a u e with z | z
    · rw [sr.nf a ha] at z
      cases z
    · obtain ⟨o, h⟩ := sr.there ha
      rw [z] at h
      cases h
/-- every cell frozen -/
def overlay (F H : Hp) (ρ : List Addr) : Hp := fun q => if q ∈ ρ then H q else F q
theorem overlay_in {F H : Hp} {ρ : List Addr} {a : Addr} (h : a ∈ ρ) : overlay F H ρ a = H a := if_pos h
theorem overlay_out {F H : Hp} {ρ : List Addr} {a : Addr} (h : a ∉ ρ) : overlay F H ρ a = F a := if_neg h
theorem overlay_same {F H : Hp} {ρ : List Addr} {S : Store} (sr : SRep c F H ρ S) : Same F (overlay F H ρ) := fun q o h => by
  by_cases hq : q ∈ ρ
  · rw [sr.nf q hq] at h
    cases h
  · rw [overlay_out hq]
    exact h
theorem overlay_sub {F H : Hp} {ρ : List Addr} (s : Same F H) : Same (overlay F H ρ) H := fun q o h => by
  by_cases hq : q ∈ ρ
  · rw [overlay_in hq] at h
    exact h
  · rw [overlay_out hq] at h
    exact s q o h
theorem frzW_rep {F H : Hp} {ρ : List Addr} {S : Store} (sr : SRep c F H ρ S) {v : V} {w : W} {x : D} (h : WRep c F ρ v w) (e : frzW S w = some x) : Rep c (overlay F H ρ) v x := by
  cases h with
  | d r =>
    cases e
    exact r.mono (overlay_same sr)
  | @ref n a hn =>
    have hm := List.mem_of_getElem? hn
    have t := view_rep (H₀ := H) sr (rv := .w (.ref n)) (v := .ref a) (.ref hn) e
    cases x with
    | lst xs =>
      obtain ⟨b, vs, e1, hb, r⟩ := t
      cases e1
      exact .lst (by rw [overlay_in hm]; exact hb) (r.mono (overlay_same sr))
    | dct t' ks xs =>
      obtain ⟨b, vs, e1, hb, r⟩ := t
      cases e1
      exact .dct (dct_keep hb fun o h => by rw [overlay_in hm]; exact h) (r.mono (overlay_same sr))
    | _ => exact (show Rep c F _ _ from t).mono (overlay_same sr)
theorem frzF_reps {F H : Hp} {ρ : List Addr} {S : Store} (sr : SRep c F H ρ S) : ∀ {vs : List (Str × V)} {fs : List (Str × W)} {xs : List D}, FsRep c F ρ vs fs → frzF S fs = some xs → Reps c (overlay F H ρ) (vs.map (·.2)) xs
  | _, _, _, .nil, e => by
    cases e
    exact .nil
  | _, _, _, .cons h r, e => by
    unfold frzF at e
    split at e
    · rename_i x xs h1 h2
      cases e
      exact .cons (frzW_rep sr h h1) (frzF_reps sr r h2)
    · cases e
theorem zip_map {α : Type} : ∀ {vs : List (Str × α)}, (vs.map (·.1)).zip (vs.map (·.2)) = vs
  | [] => rfl
  | p :: r => by
    rw [List.map_cons, List.map_cons, List.zip_cons_cons, zip_map]
/-- what is handed on: F2 has what is frozen then -/
theorem give_ok {F H F' H' : Hp} {r₀ ρ' ρ : List Addr} {S' : Store} {H₁ : Hp} (sr : SRep c F' H' ρ' S') (st : Step F r₀ H₁ F' ρ' H') (hn : ∀ q ∈ r₀, H q = none) (hb : ∀ q, H₁ q = none → H q = none) (hρ : ∀ a ∈ ρ, ∃ o, H a = some o) {v : V} {rv rv2 : RV} (h : VRep c F' H' ρ' H₁ v rv) (e : give G S' rv = some rv2) :
    ∃ F2, Same F' F2 ∧ Same F2 H' ∧ (∀ q o, F2 q = some o → F' q = some o ∨ H q = none) ∧ VRep c F2 H' ρ H v rv2 := by
  have new : ∀ q ∈ ρ', H q = none := fun q hq => by
    rcases st.newR q hq with z | z
    · exact hn q z
    · exact hb q z
  have out : ∀ a, H a = none → a ∉ ρ := fun a h hm => by
    obtain ⟨o, e⟩ := hρ a hm
    rw [h] at e
    cases e
  unfold give at e
  split at e
  · cases e
    refine ⟨F', Same.refl _, sr.sub, fun q o h => .inl h, ?_⟩
    cases h with
    | d r => exact .d r
  · cases e
    obtain ⟨a, vs, e1, ha, h0, hf, hr, r⟩ := h
    exact ⟨F', Same.refl _, sr.sub, fun q o h => .inl h, a, vs, e1, ha, hb a h0, hf, out a (hb a h0), r⟩
  · cases e
    obtain ⟨a, vs, e1, ha, h0, hf, hr, r⟩ := h
    exact ⟨F', Same.refl _, sr.sub, fun q o h => .inl h, a, vs, e1, ha, hb a h0, hf, out a (hb a h0), r⟩
  · rename_i n
    cases h with
    | @ref _ a hn' =>
      have hm := List.mem_of_getElem? hn'
      split at e
      · rename_i ws hs
        cases q : toDs ws with
        | none =>
          rw [q] at e
          cases e
        | some xs =>
          rw [q] at e
          cases e
          obtain ⟨vs, ha, r⟩ := sr.cell n _ _ hs hn'
          exact ⟨F', Same.refl _, sr.sub, fun q o h => .inl h, a, vs, rfl, ha, new a hm, sr.nf a hm, out a (new a hm), toDs_reps r q⟩
      · rename_i t ks xs hs
        cases e
        obtain ⟨vs, ha, r⟩ := sr.cell n _ _ hs hn'
        exact ⟨F', Same.refl _, sr.sub, fun q o h => .inl h, a, vs, rfl, ha, new a hm, sr.nf a hm, out a (new a hm), r⟩
      · rename_i k fs hs
        obtain ⟨dx, vs, ha, r⟩ := sr.cell n _ _ hs hn'
        split at e
        · rename_i ci hci
          split at e
          · cases q : frzF S' fs with
            | none =>
              rw [q] at e
              cases e
            | some xs =>
              rw [q] at e
              cases e
              have rr := frzF_reps sr r q
              refine ⟨overlay F' H' ρ', overlay_same sr, overlay_sub sr.sub, fun q o h => ?_, .d (.ins (dx := dx) (vs := vs.map (·.2)) ?_ ?_ rr)⟩
              · by_cases hq : q ∈ ρ'
                · exact .inr (new q hq)
                · rw [overlay_out hq] at h
                  exact .inl h
              · rw [overlay_in hm, ← fs_names r, zip_map]
                exact ha
              · rw [← fs_names r, List.length_map, List.length_map]
          · cases e
        · cases e
      · cases e
  · cases e
end
end Ev
set_option linter.all false
set_option maxHeartbeats 2000000
namespace Ev
open PySem L2

section
variable {c : Cs} {G : Gm} {fr : Fr} {X : Cx} {Wx : WX} {R : Rec} {fa : Nat → Addr} {fd : Nat → FuncData} {dV : Nat → List Value} {k : Nat}

def isDn : RV → Bool
  | .w (.d .non) => true
  | _ => false
/-- a new instance, by __init__'s arguments behind self -/
def makeY (G : Gm) (R : Rec) (n : Nat) (ws : List W) (S : Store) : Out RV := match G.clss[n]? with
  | some ci => if ci.frozen && pureW ws then
      match callF G R ci.init (.ref 0 :: ws) [.ins n []] with
      | .ok v S' => if isDn v then match give G S' (.w (.ref 0)) with
        | some v' => .ok v' S
        | none => .bad
        else .bad
      | .exc x fs _ => .exc x fs S
      | .bad => .bad
    else match callF G R ci.init (.ref S.length :: ws) (S ++ [.ins n []]) with
      | .ok v S' => if isDn v then .ok (.w (.ref S.length)) S' else .bad
      | .exc x fs S' => .exc x fs S'
      | .bad => .bad
  | none => .bad
theorem isDn_rep {F H H₀ : Hp} {ρ : List Addr} {v : V} {rv : RV} (h : VRep c F H ρ H₀ v rv) (e : isDn rv = true) : v = .non := by
  unfold isDn at e
  split at e
  · cases h with
    | d r =>
      cases r
      rfl
  · cases e
theorem pure_reps {F F' : Hp} {ρ ρ' : List Addr} (s : Same F F') : ∀ {vs : List V} {ws : List W}, WReps c F ρ vs ws → pureW ws = true → WReps c F' ρ' vs ws
  | _, _, .nil, _ => .nil
  | _, _, .cons (b := w) h r, e => by
    cases h with
    | d q => exact .cons (.d (q.mono s)) (pure_reps s r e)
    | ref _ => cases e
theorem lack_pure {F : Hp} {ρ ρ' : List Addr} {fi : FnI} {m : Nat} {dvs : List V} (d : ∀ F ρ, WReps c F ρ dvs (lack fi m)) : WReps c F ρ' dvs (lack fi m) := d F ρ'
/-- an exception's fields, seen from a later or wider heap -/
theorem ExcAt.mono {F F' H : Hp} {n : Nat} {fs : List D} {cls : Value} {d : Option Addr} (s : Same F F') (h : ExcAt c F H n fs cls d) : ExcAt c F' H n fs cls d := by
  obtain ⟨h1, h2⟩ := h
  refine ⟨h1, ?_⟩
  cases fs with
  | nil => exact h2
  | cons x r =>
    obtain ⟨dd, vs, e1, e2, e3, e4⟩ := h2
    exact ⟨dd, vs, e1, e2, e3, e4.mono s⟩
/-- the promise of a new instance's __init__ -/
theorem make_key {n : Nat} {ci : ClsI} {fi : FnI} (hci : G.clss[n]? = some ci) (hi : G.fns[ci.init]? = some fi) {τ : L2.St} {H : Hp} {Q : VK} {F : Hp} {ρ : List Addr} {S : Store} (sr : SRep c F H ρ S) {ws : List W} {vs : List V} (wr : WReps c F ρ vs ws) (hlen : vs.length + 1 = fi.ps.length)
    (q : QO c (xwOf c Wx) τ F ρ H (makeY G R n ws S) fun rv S' F' H' ρ' => ∀ v, VRep c F' H' ρ' H v rv → Q v H') {x dx : Addr} (hxn : H x = none) (hdn : H dx = none) (hne : dx ≠ x) :
    spF c G R ci.init (.ref x :: vs) (upd (upd H dx (.own x)) x (.ins (c.cl n) dx [])) (fun v H2 => v = .non ∧ Q (.ref x) H2) (WE Wx τ) := by
  unfold makeY at q
  rw [hci] at q
  dsimp only at q
  have len : (V.ref x :: vs).length = fi.ps.length := hlen
  have keepH : ∀ q o, H q = some o → (upd (upd H dx (.own x)) x (.ins (c.cl n) dx [])) q = some o := fun q o h => by
    rw [upd_ne (ne_of_none h hxn), upd_ne (ne_of_none h hdn)]
    exact h
  have backH : ∀ q, (upd (upd H dx (.own x)) x (.ins (c.cl n) dx [])) q = none → H q = none := fun q h => by
    cases e : H q with
    | none => rfl
    | some o =>
      rw [keepH q o e] at h
      cases h
  have sub2 : Same F (upd (upd H dx (.own x)) x (.ins (c.cl n) dx [])) := fun q o h => keepH q o (sr.sub q o h)
  split at q
  · rename_i hfp
    rw [Bool.and_eq_true] at hfp
    have sr0 : SRep c F (upd (upd H dx (.own x)) x (.ins (c.cl n) dx [])) [x] [.ins n []] := by
      refine ⟨sub2, rfl, List.nodup_cons.mpr ⟨by simp, List.nodup_nil⟩, fun a ha => ?_, fun j cc a h1 h2 => ?_⟩
      · have e : a = x := by simpa using ha
        rw [e]
        exact fresh_F sr hxn
      · cases j with
        | zero =>
          simp at h1 h2
          subst h1 h2
          exact ⟨dx, [], upd_same, .nil⟩
        | succ j => simp at h1
    refine spF_mk (τ := τ) hi len sr0 (.cons (.ref (show ([x] : List Addr)[0]? = some x from rfl)) (pure_reps (Same.refl F) wr hfp.2)) ?_
    cases hc : callF G R ci.init (.ref 0 :: ws) [.ins n []] with
    | bad =>
      rw [hc] at q
      exact q.elim
    | exc e fs S' =>
      rw [hc] at q
      intro F' H' ρ' st sr' cls d ha
      obtain ⟨o1, o2⟩ := own_step sr keepH (fun q hq => by rw [show q = x by simpa using hq]; exact hxn) st (fun q o h => by
        cases e : H q with
        | none => exact .inr rfl
        | some u =>
          rw [keepH q u e] at h
          exact .inl h) sr'.sub
      exact q F' H' ρ o1 o2 cls d ha
    | ok v S' =>
      rw [hc] at q
      dsimp only at q
      intro F' H' ρ' st sr' w vr
      split at q
      · rename_i hd
        split at q
        · rename_i v' hg
          refine ⟨isDn_rep vr hd, ?_⟩
          have hin : ρ'[0]? = some x := by
            obtain ⟨t, rfl⟩ := st.pre
            rfl
          obtain ⟨F2, s1, s2, s3, vr2⟩ := give_ok (ρ := ρ) sr' st (fun q hq => by rw [show q = x by simpa using hq]; exact hxn) backH (fun a ha => sr.there ha) (rv := .w (.ref 0)) (v := .ref x) (WRep.ref hin) hg
          have st2 : Step F [x] (upd (upd H dx (.own x)) x (.ins (c.cl n) dx [])) F' ρ' H' := st
          obtain ⟨o1, o2⟩ := own_step sr keepH (fun q hq => by rw [show q = x by simpa using hq]; exact hxn) st (fun q o h => by
            cases e : H q with
            | none => exact .inr rfl
            | some u =>
              rw [keepH q u e] at h
              exact .inl h) sr'.sub
          -- the frozen part grows by what is new alone
          have o3 : Step F ρ H F2 ρ H' := ⟨o1.frz.trans s1, List.prefix_refl _, fun q o h => by
            rcases s3 q o h with z | z
            · exact o1.newF q o z
            · exact .inr z, fun q h => .inl h, o1.keep, o1.dom⟩
          have o4 : SRep c F2 H' ρ S := o2.on s1 s2 (fun a ha => by
            cases e : F2 a with
            | none => rfl
            | some u =>
              rcases o3.newF a u e with z | z
              · rw [sr.nf a ha] at z
                cases z
              · obtain ⟨o, h⟩ := sr.there ha
                rw [z] at h
                cases h) fun _ _ _ h => h
          exact q F2 H' ρ o3 o4 _ vr2
        · exact q.elim
      · exact q.elim
  · -- the caller's store grows by the instance
    have xr : x ∉ ρ := sr.fresh hxn
    have sr0 : SRep c F (upd (upd H dx (.own x)) x (.ins (c.cl n) dx [])) (ρ ++ [x]) (S ++ [.ins n []]) := by
      refine ⟨sub2, by rw [List.length_append, List.length_append, sr.len]; rfl, ?_, fun a ha => ?_, fun j cc a h1 h2 => ?_⟩
      · exact List.nodup_append.mpr ⟨sr.nd, List.nodup_cons.mpr ⟨by simp, List.nodup_nil⟩, fun a ha b hb => by
          rw [show b = x by simpa using hb]
          exact fun e => xr (e ▸ ha)⟩
      · rcases List.mem_append.mp ha with z | z
        · exact sr.nf a z
        · rw [show a = x by simpa using z]
          exact fresh_F sr hxn
      · by_cases hj : j < S.length
        · rw [List.getElem?_append_left hj] at h1
          rw [List.getElem?_append_left (by rw [sr.len]; exact hj)] at h2
          have hc := sr.cell j cc a h1 h2
          exact hc.keep (Same.refl F) (List.prefix_append _ _) fun o h => keepH a o h
        · rw [List.getElem?_append_right (by omega)] at h1
          rw [List.getElem?_append_right (by rw [sr.len]; omega), sr.len] at h2
          cases hz : j - S.length with
          | zero =>
            rw [hz] at h1 h2
            simp at h1 h2
            subst h1 h2
            exact ⟨dx, [], upd_same, .nil⟩
          | succ z =>
            rw [hz] at h1
            simp at h1
    have st0 : Step F ρ H F (ρ ++ [x]) (upd (upd H dx (.own x)) x (.ins (c.cl n) dx [])) := ⟨Same.refl F, List.prefix_append _ _, fun q o h => .inl h, fun q hq => by
        rcases List.mem_append.mp hq with z | z
        · exact .inl z
        · rw [show q = x by simpa using z]
          exact .inr hxn, fun q o h _ => keepH q o h, fun q o h => ⟨o, keepH q o h⟩⟩
    have hin : (ρ ++ [x])[S.length]? = some x := by
      rw [List.getElem?_append_right (by rw [sr.len]; exact Nat.le_refl _), sr.len, Nat.sub_self]
      rfl
    refine spF_mk (τ := τ) hi len sr0 (.cons (.ref hin) (WReps.mono (Same.refl F) (List.prefix_append _ _) wr)) ?_
    cases hc : callF G R ci.init (.ref S.length :: ws) (S ++ [.ins n []]) with
    | bad =>
      rw [hc] at q
      exact q.elim
    | exc e fs S' =>
      rw [hc] at q
      exact fun F' H' ρ' st sr' cls d ha => q F' H' ρ' (st0.trans st) sr' cls d ha
    | ok v S' =>
      rw [hc] at q
      dsimp only at q
      intro F' H' ρ' st sr' w vr
      split at q
      · rename_i hd
        refine ⟨isDn_rep vr hd, ?_⟩
        have hin' : ρ'[S.length]? = some x := by
          obtain ⟨t, rfl⟩ := st.pre
          rw [List.getElem?_append_left (by rw [List.length_append, sr.len]; exact Nat.lt_succ_self _)]
          exact hin
        exact q F' H' ρ' (st0.trans st) sr' (.ref x) (.ref hin')
      · exact q.elim
end
end Ev
set_option linter.all false
set_option maxHeartbeats 2000000
namespace Ev
open PySem L2

/-! ## statements -/
def QS (c : Cs) (Wx : WX) (F : Hp) (ρ : List Addr) (H : Hp) (D : Ends) (o : SOut) : Prop := match o with
  | .nx σ' S' => ∀ τ' F' H' ρ', Step F ρ H F' ρ' H' → At c σ' S' τ' F' H' ρ' → D.nx τ' H'
  | .rt rv S' => ∀ v F' H' ρ', Step F ρ H F' ρ' H' → SRep c F' H' ρ' S' → VRep c F' H' ρ' H v rv → D.rt v H'
  | .bk σ' S' => ∀ τ' F' H' ρ', Step F ρ H F' ρ' H' → At c σ' S' τ' F' H' ρ' → D.bk τ' H'
  | .ct σ' S' => ∀ τ' F' H' ρ', Step F ρ H F' ρ' H' → At c σ' S' τ' F' H' ρ' → D.ct τ' H'
  | .exc n fs σ' S' => ∀ τ' F' H' ρ' cls d, Step F ρ H F' ρ' H' → At c σ' S' τ' F' H' ρ' → ExcAt c F' H' n fs cls d → Wx cls d τ' H'
  | .bad => False
def tS (c : Cs) (Wx : WX) (f : Env → Store → SOut) : TS := fun D τ H => ∃ σ S F ρ, At c σ S τ F H ρ ∧ QS c Wx F ρ H D (f σ S)
def liftS {α : Type} (o : Out α) (σ : Env) (k : α → Store → SOut) : SOut := match o with
  | .ok a S => k a S
  | .exc n fs S => .exc n fs σ S
  | .bad => .bad
section
variable {α : Type} {c : Cs} {G : Gm} {fr : Fr} {X : Cx} {Wx : WX} {R : Rec} {τ : L2.St} {F H : Hp} {ρ : List Addr} {D : Ends} {σ : Env} {S : Store}
theorem QS.later {o : SOut} {F1 H1 : Hp} {ρ1 : List Addr} (st : Step F ρ H F1 ρ1 H1) (h : QS c Wx F ρ H D o) : QS c Wx F1 ρ1 H1 D o := by
  cases o with
  | nx σ' S' => exact fun τ' F' H' ρ' s2 a => h τ' F' H' ρ' (st.trans s2) a
  | rt rv S' => exact fun v F' H' ρ' s2 sr vr => h v F' H' ρ' (st.trans s2) sr (vr.back st.back)
  | bk σ' S' => exact fun τ' F' H' ρ' s2 a => h τ' F' H' ρ' (st.trans s2) a
  | ct σ' S' => exact fun τ' F' H' ρ' s2 a => h τ' F' H' ρ' (st.trans s2) a
  | exc n fs σ' S' => exact fun τ' F' H' ρ' cls d s2 a e => h τ' F' H' ρ' cls d (st.trans s2) a e
  | bad => exact h
theorem QS.lift {o : Out α} {k : α → Store → SOut} (a : At c σ S τ F H ρ) (h : QS c Wx F ρ H D (liftS o σ k)) :
    QO c (xwOf c Wx) τ F ρ H o fun x S1 _ _ _ => ∀ {F2 H2 : Hp} {ρ2 : List Addr}, Step F ρ H F2 ρ2 H2 → QS c Wx F2 ρ2 H2 D (k x S1) := by
  cases o with
  | ok x S1 => exact fun F' H' ρ' _ _ F2 H2 ρ2 st => QS.later st (show QS c Wx F ρ H D (k x S1) from h)
  | exc n fs S1 => exact fun F' H' ρ' st sr cls d e => h τ F' H' ρ' cls d st (a.step st sr) e
  | bad => exact h
theorem QS.now (a : At c σ S τ F H ρ) (h : QS c Wx F ρ H D (.nx σ S)) : D.nx τ H := h τ F H ρ (Step.refl _ _ _) a
theorem js_imp {st : Stmt} {t t' : TS} (h : PS X st t) (i : ∀ D τ H, t' D τ H → t D τ H) : PS X st t' := ⟨fun pins s τ H D I q => h.run pins s τ H D I (i D τ H q)⟩
theorem jss_imp {st : List Stmt} {t t' : TS} (h : PSs X st t) (i : ∀ D τ H, t' D τ H → t D τ H) : PSs X st t' := ⟨fun pins s τ H D I q => h.run pins s τ H D I (i D τ H q)⟩
theorem js_bad {st : Stmt} : PS X st (tS c Wx fun _ _ => .bad) := ⟨fun pins s τ H D I h => by
  obtain ⟨σ, S, F, ρ, a, q⟩ := h
  exact q.elim⟩

/-! ### blocks -/
def blockS (f : Stmt → Env → Store → SOut) : List Stmt → Env → Store → SOut
  | [], σ, S => .nx σ S
  | st :: r, σ, S => match f st σ S with
    | .nx σ' S' => blockS f r σ' S'
    | o => o
theorem js_block {f : Stmt → Env → Store → SOut} (h : ∀ st, PS X st (tS c Wx (f st))) : ∀ sts : List Stmt, PSs X sts (tS c Wx (blockS f sts))
  | [] => jss_imp pss_nil fun D τ H h => by
    obtain ⟨σ, S, F, ρ, a, q⟩ := h
    exact QS.now (Wx := Wx) a q
  | st :: r => jss_imp (pss_cons (h st) (js_block h r)) fun D τ H hq => by
    obtain ⟨σ, S, F, ρ, a, q⟩ := hq
    refine ⟨σ, S, F, ρ, a, ?_⟩
    have e : blockS f (st :: r) σ S = match f st σ S with
      | .nx σ' S' => blockS f r σ' S'
      | o => o := rfl
    rw [e] at q
    cases hf : f st σ S with
    | nx σ' S' =>
      rw [hf] at q
      exact fun τ' F' H' ρ' st' a' => ⟨σ', S', F', ρ', a', QS.later st' q⟩
    | rt rv S' =>
      rw [hf] at q
      exact q
    | bk σ' S' =>
      rw [hf] at q
      exact q
    | ct σ' S' =>
      rw [hf] at q
      exact q
    | exc n fs σ' S' =>
      rw [hf] at q
      exact q
    | bad =>
      rw [hf] at q
      exact q

/-! ### names -/
def noComp : Expr → Bool
  | .ListComp .. => false | .SetComp .. => false | .DictComp .. => false | _ => true
theorem noComp_swaps {e : Expr} {t : Option Expr} {l : Nat} {env : PySem.Env} (h : noComp e = true) : swapsWith e t l env = pure false := by
  cases e <;> first | rfl | cases h
def setN (fr : Fr) (x : Str) (rv : RV) (σ : Env) (S : Store) : SOut := if isLoc fr x then match idx fr.N x with
  | some i => .nx (σ.set i (some (keepW (fr.cells.contains x) rv S).1)) (keepW (fr.cells.contains x) rv S).2
  | none => .bad
  else .bad
theorem setN_ok {F1 H1 : Hp} {ρ1 : List Addr} {S1 : Store} (a : At c σ S τ F H ρ) (st : Step F ρ H F1 ρ1 H1) (sr : SRep c F1 H1 ρ1 S1) {v : V} {rv : RV} (vr : VRep c F1 H1 ρ1 H v rv) {x : Str} {i : Nat} (hl : isLoc fr x = true) (hi : idx fr.N x = some i)
    (q : ∀ {F2 H2 : Hp} {ρ2 : List Addr}, Step F ρ H F2 ρ2 H2 → QS c Wx F2 ρ2 H2 D (setN fr x rv σ S1)) : D.nx (τ.set i (some v)) H1 := by
  obtain ⟨F2, ρ2, s1, s2, s3, s4, s5⟩ := keepW_ok st sr vr (fr.cells.contains x)
  have q1 := q s3
  unfold setN at q1
  rw [if_pos hl, hi] at q1
  exact QS.now ⟨(a.env.mono s3.frz s3.pre).set s5 i, s4⟩ q1
theorem js_set (ok : XOk c G fr X) {x : Str} {e : Expr} {p pos : Pos} {f : Env → Store → Out RV} (he : PE X e (tE c (xwOf c Wx) f)) (hn : noComp e = true) (hl : isLoc fr x = true) {i : Nat} (hi : idx fr.N x = some i) :
    PS X (.Assign [.Name x p] e pos) (tS c Wx fun σ S => liftS (f σ S) σ fun rv S1 => setN fr x rv σ S1) := by
  have hf : X.fn x = true ∨ X.env.scope.names.lookup x = some .local := by
    rcases ok.fnm x with h | h | h
    · exact .inl h
    · exact .inr h
    · rw [hl] at h
      cases h
  refine js_imp (ps_set (i := i) ok.nd (by rw [ok.N]; exact idx_get hi) (isLoc_loc ok hl) he (noComp_swaps hn) hf) fun D τ H h => ?_
  obtain ⟨σ, S, F, ρ, a, q⟩ := h
  refine tE_mk a ((QS.lift a q).imp fun rv S1 F1 H1 ρ1 st sr q0 v vr => ?_)
  exact setN_ok a st sr vr hl hi q0

/-! ### return, an expression, pass, break, continue, if -/
theorem js_ret {e : Expr} {pos : Pos} {f : Env → Store → Out RV} (he : PE X e (tE c (xwOf c Wx) f)) : PS X (.Return (some e) pos) (tS c Wx fun σ S => liftS (f σ S) σ fun rv S1 => .rt rv S1) := by
  refine js_imp (ps_ret he) fun D τ H h => ?_
  obtain ⟨σ, S, F, ρ, a, q⟩ := h
  refine tE_mk a ((QS.lift a q).imp fun rv S1 F1 H1 ρ1 st sr q0 v vr => ?_)
  have h0 : QS c Wx F ρ H D (.rt rv S1) := q0 (Step.refl _ _ _)
  exact h0 v F1 H1 ρ1 st sr vr
theorem js_retN {pos : Pos} : PS X (.Return none pos) (tS c Wx fun σ S => .rt (.d .non) S) := by
  refine js_imp ps_retN fun D τ H h => ?_
  obtain ⟨σ, S, F, ρ, a, q⟩ := h
  exact q .non F H ρ (Step.refl _ _ _) a.st (.d .non)
theorem js_expr {e : Expr} {pos : Pos} {f : Env → Store → Out RV} (he : PE X e (tE c (xwOf c Wx) f)) (hn : noComp e = true) : PS X (.Expr e pos) (tS c Wx fun σ S => liftS (f σ S) σ fun _ S1 => .nx σ S1) := by
  refine js_imp (ps_expr he (noComp_swaps hn)) fun D τ H h => ?_
  obtain ⟨σ, S, F, ρ, a, q⟩ := h
  refine tE_mk a ((QS.lift a q).imp fun rv S1 F1 H1 ρ1 st sr q0 v vr => ?_)
  exact QS.now (a.step st sr) (q0 st)
theorem js_pass {pos : Pos} : PS X (.Pass pos) (tS c Wx fun σ S => .nx σ S) := by
  refine js_imp ps_pass fun D τ H h => ?_
  obtain ⟨σ, S, F, ρ, a, q⟩ := h
  exact QS.now a q
theorem js_break {pos : Pos} : PS X (.Break pos) (tS c Wx fun σ S => .bk σ S) := by
  refine js_imp ps_break fun D τ H h => ?_
  obtain ⟨σ, S, F, ρ, a, q⟩ := h
  exact q τ F H ρ (Step.refl _ _ _) a
theorem js_cont {pos : Pos} : PS X (.Continue pos) (tS c Wx fun σ S => .ct σ S) := by
  refine js_imp ps_continue fun D τ H h => ?_
  obtain ⟨σ, S, F, ρ, a, q⟩ := h
  exact q τ F H ρ (Step.refl _ _ _) a
theorem js_if {t : Expr} {x y : List Stmt} {pos : Pos} {ft : Env → Store → Out Bool} {fx fy : Env → Store → SOut} (ht : PT X t (tB c (xwOf c Wx) ft)) (hx : PSs X x (tS c Wx fx)) (hy : PSs X y (tS c Wx fy)) :
    PS X (.If t x y pos) (tS c Wx fun σ S => liftS (ft σ S) σ fun b S1 => if b = true then fx σ S1 else fy σ S1) := by
  refine js_imp (ps_if ht hx hy) fun D τ H h => ?_
  obtain ⟨σ, S, F, ρ, a, q⟩ := h
  refine ⟨σ, S, F, ρ, a, (QS.lift a q).imp fun b S1 F1 H1 ρ1 st sr q0 => ?_⟩
  have q1 := q0 st
  cases b with
  | true => exact iteT ⟨σ, S1, F1, ρ1, a.step st sr, q1⟩
  | false => exact iteF ⟨σ, S1, F1, ρ1, a.step st sr, q1⟩
end
end Ev
set_option linter.all false
set_option maxHeartbeats 2000000
namespace Ev
open PySem L2

/-! ## what is walked -/
inductive Src where
  | fix (xs : List D)
  /-- the list in a cell, as it stands at each turn; with its places -/
  | cell (n : Nat) (en : Bool)
def curOf : Src → Store → Nat → Option (Option D)
  | .fix xs, _, i => match xs[i]? with
    | some d => some (some d)
    | none => if xs.length = i then some none else none
  | .cell n en, S, i => match S[n]? with
    | some (.lst ws) => match ws[i]? with
      | none => if ws.length = i then some none else none
      | some (.d x) => some (some (if en then .tup [.int i, x] else x))
      | some _ => none
    | _ => none
def turnsOf : Src → Nat
  | .fix xs => xs.length + 1
  | .cell _ _ => line
theorem curF_none {xs : List D} {S : Store} {i : Nat} (h : curOf (.fix xs) S i = some none) : xs.length = i := by
  unfold curOf at h
  dsimp only at h
  split at h
  · cases h
  · split at h
    · assumption
    · cases h
theorem curF_some {xs : List D} {S : Store} {i : Nat} {d : D} (h : curOf (.fix xs) S i = some (some d)) : xs[i]? = some d := by
  unfold curOf at h
  dsimp only at h
  split at h
  · rename_i e
    cases h
    exact e
  · split at h <;> cases h
theorem curC_none {n : Nat} {en : Bool} {S : Store} {i : Nat} (h : curOf (.cell n en) S i = some none) : ∃ ws, S[n]? = some (.lst ws) ∧ ws.length = i := by
  unfold curOf at h
  dsimp only at h
  split at h
  · rename_i ws e
    split at h
    · split at h
      · exact ⟨ws, e, by assumption⟩
      · cases h
    · cases h
    · cases h
  · cases h
theorem curC_some {n : Nat} {en : Bool} {S : Store} {i : Nat} {d : D} (h : curOf (.cell n en) S i = some (some d)) : ∃ ws x, S[n]? = some (.lst ws) ∧ ws[i]? = some (.d x) ∧ d = if en then .tup [.int i, x] else x := by
  unfold curOf at h
  dsimp only at h
  split at h
  · rename_i ws e
    split at h
    · split at h <;> cases h
    · rename_i x e2
      cases h
      exact ⟨ws, x, e, e2, rfl⟩
    · cases h
  · cases h
/-- the iterator J walks what cur tells -/
def SrcOk (c : Cs) (F : Hp) (ρ : List Addr) (J : It) (cur : Store → Nat → Option (Option D)) : Prop := ∀ (F' H : Hp) (ρ' : List Addr) (S : Store) (i : Nat), Same F F' → ρ <+: ρ' → SRep c F' H ρ' S →
  (cur S i = some none → J.stop i H) ∧ ∀ d, cur S i = some (some d) → J.go i H ∧ ∀ x H', J.yld i H x H' → ∃ F2, Step F' ρ' H F2 ρ' H' ∧ SRep c F2 H' ρ' S ∧ Rep c F2 x d
def tI (c : Cs) (Xw : XW) (f : Env → Store → Out Src) : TI := fun τ H R => ∃ σ S F ρ, At c σ S τ F H ρ ∧ QO c Xw τ F ρ H (f σ S) fun src S' F' H' ρ' => ∀ J F2, Same F' F2 → Step F ρ H F2 ρ' H' → SRep c F2 H' ρ' S' → SrcOk c F2 ρ' J (curOf src) → R J H'
section
variable {c : Cs} {G : Gm} {fr : Fr} {X : Cx} {Xw : XW} {R : Rec}
theorem reps_get {F : Hp} {vs : List V} {xs : List D} (r : Reps c F vs xs) {i : Nat} {d : D} {v : V} (h1 : xs[i]? = some d) (h2 : vs[i]? = some v) : Rep c F v d := by
  obtain ⟨u, e, h⟩ := r.get h1
  rw [h2] at e
  cases e
  exact h
theorem Paired.getP {α β : Type} {r : α → β → Prop} : ∀ {xs : List α} {ys : List β} {i : Nat} {y : β}, Paired r xs ys → ys[i]? = some y → ∃ x, xs[i]? = some x ∧ r x y
  | _, _, _, _, .nil, e => by simp at e
  | _, _, 0, y, .cons h _, e => by simp at e; subst e; exact ⟨_, rfl, h⟩
  | _, _, i + 1, y, .cons _ t, e => by
    obtain ⟨x, h1, h2⟩ := Paired.getP (i := i) t (by simpa using e)
    exact ⟨x, by simpa using h1, h2⟩
theorem src_list {F : Hp} {ρ : List Addr} {a : Addr} {vs : List V} {xs : List D} (hK : X.K = c.K) (ha : F a = some (.lst vs)) (r : Reps c F vs xs) : SrcOk c F ρ (Itl X.K a) (curOf (.fix xs)) := by
  intro F' H ρ' S i sF pr sr
  have hq : SqL X.K H a vs := SqL.of (sr.sub _ _ (sF _ _ ha))
  refine ⟨fun e => ?_, fun d e => ?_⟩
  · exact ⟨vs, hq, by rw [r.length]; exact Nat.le_of_eq (curF_none e)⟩
  · have e := curF_some e
    obtain ⟨v, hv, _⟩ := r.get e
    refine ⟨⟨vs, v, hq, hv⟩, fun x H' y => ?_⟩
    obtain ⟨rfl, y⟩ := y
    exact ⟨F', Step.refl _ _ _, sr, (reps_get r e (y vs hq)).mono sF⟩
theorem src_tup {F : Hp} {ρ : List Addr} {a : Addr} {vs : List V} {xs : List D} (ha : ∀ F' H, Same F F' → Same F' H → SqT X.K H a vs) (r : Reps c F vs xs) : SrcOk c F ρ (Itt X.K a) (curOf (.fix xs)) := by
  intro F' H ρ' S i sF pr sr
  have hq : SqT X.K H a vs := ha F' H sF sr.sub
  refine ⟨fun e => ?_, fun d e => ?_⟩
  · exact ⟨vs, hq, by rw [r.length]; exact Nat.le_of_eq (curF_none e)⟩
  · have e := curF_some e
    obtain ⟨v, hv, _⟩ := r.get e
    refine ⟨⟨vs, v, hq, hv⟩, fun x H' y => ?_⟩
    obtain ⟨rfl, y⟩ := y
    exact ⟨F', Step.refl _ _ _, sr, (reps_get r e (y vs hq)).mono sF⟩
theorem src_str {F : Hp} {ρ : List Addr} {z : Str} : SrcOk c F ρ (Its z) (curOf (.fix (charsD z))) := by
  intro F' H ρ' S i sF pr sr
  refine ⟨fun e => ?_, fun d e => ?_⟩
  · have e2 := curF_none e
    unfold charsD at e2
    rw [List.length_map, Array.length_toList] at e2
    exact Nat.le_of_eq e2
  · have e := curF_some e
    unfold charsD at e
    rw [List.getElem?_map] at e
    cases hc : z.cps.toList[i]? with
    | none =>
      rw [hc] at e
      cases e
    | some ch =>
      rw [hc] at e
      cases e
      have hl : i < z.cps.size := by
        have := (List.getElem?_eq_some_iff.mp hc).1
        rwa [Array.length_toList] at this
      refine ⟨hl, fun x H' y => ?_⟩
      obtain ⟨rfl, ch', h1, rfl⟩ := y
      rw [Array.getElem?_toList] at hc
      rw [hc] at h1
      cases h1
      exact ⟨F', Step.refl _ _ _, sr, .str _⟩
theorem src_cell {F : Hp} {ρ : List Addr} {a : Addr} {n : Nat} (hn : ρ[n]? = some a) : SrcOk c F ρ (Itl X.K a) (curOf (.cell n false)) := by
  intro F' H ρ' S i sF pr sr
  have hn' : ρ'[n]? = some a := by
    obtain ⟨t, rfl⟩ := pr
    rw [List.getElem?_append_left (List.getElem?_eq_some_iff.mp hn).1]
    exact hn
  refine ⟨fun e => ?_, fun d e => ?_⟩
  · obtain ⟨ws, hS, hl⟩ := curC_none e
    obtain ⟨vs, ha, r⟩ := sr.cell n _ a hS hn'
    exact ⟨vs, SqL.of ha, by rw [Paired.len r]; exact Nat.le_of_eq hl⟩
  · obtain ⟨ws, x, hS, hx, rfl⟩ := curC_some e
    obtain ⟨vs, ha, r⟩ := sr.cell n _ a hS hn'
    have hq : SqL X.K H a vs := SqL.of ha
    obtain ⟨v, hv, rv⟩ := Paired.getP r hx
    refine ⟨⟨vs, v, hq, hv⟩, fun x H' z => ?_⟩
    obtain ⟨rfl, z⟩ := z
    have e2 := z vs hq
    rw [hv] at e2
    cases e2
    cases rv with
    | d rv => exact ⟨F', Step.refl _ _ _, sr, rv⟩
end
end Ev
set_option linter.all false
set_option maxHeartbeats 2000000
namespace Ev
open PySem L2 Sem PyProof.Rows

/-! ## walks whose turns give new tuples: enumerate, zip, over lists, tuples and texts alike -/
section
variable {X : Cx}
/-- Y: the turn's tuple -/
def Itw (Y : Nat → Hp → List V → Prop) (stop : Nat → Hp → Prop) : It :=
  ⟨fun i H => ∃ xs, Y i H xs, fun i H v H' => ∃ T xs, v = .ref T ∧ H T = none ∧ H' = upd H T (.tup xs) ∧ Y i H xs ∧ ∀ ys, Y i H ys → ys = xs, stop⟩
theorem turn_w {P : PySem.Program} {w : PySem.World} {K : PySem.W.Frag} {elts : List Expr} {kk : Nat} {tpos : Pos} {z : Addr} {wr own : List Addr} {tn : Nat → Heap → Prop} {Y : Nat → Hp → List V → Prop} {stop : Nat → Hp → Prop}
    (mem : z ∈ own) (sub : ∀ b ∈ wr, b ∈ own) (obj : ∀ i h, tn i h → ∀ b ∈ own, ∃ o, h.get? b = some o ∧ ∀ v, o.data ≠ .cell v)
    (keep : ∀ i h h', tn i h → (∀ b ∈ own, ∀ o, h.get? b = some o → h'.get? b = some o) → tn i h')
    (self : ∀ (A : Around) (i : Nat) (s : Shared) (Q : Value → Shared → Prop) (E : Value → Shared → Prop), tn i s.heap → Q (.ref z) s → wpAny (model P w) A (pyIter (.ref z)) Q E s)
    (walk : ∀ (X : Cx), X.prog = P → X.w = w → X.K = K → X.calm = true → ∀ (i : Nat) (pins : List (Addr × Obj)) (s : Shared) (σ : L2.St) (H : Hp), Inv X pins σ H s → (∀ b ∈ own, FpOk X pins H b) → tn i s.heap → ((∃ xs, Y i H xs) ∨ stop i H) →
      ∃ fp n Pt St Mid, WalksT P w X.A z fp wr n Pt St Mid ∧ St i s.heap ∧ (∀ h, St (i + 1) h → tn (i + 1) h) ∧ (stop i H → i = n) ∧
        ∀ xs, Y i H xs → i < n ∧ xs.length ≤ sizeLine ∧ (∀ ys, Y i H ys → ys = xs) ∧ ∀ vals, Pt i vals → Vals xs vals.toList) :
    Turn P w K (.Tuple elts kk tpos) (Itw Y stop) own z tn where
  mem := mem
  obj := obj
  keep := keep
  self := self
  item := by
    intro X hP hw hK hc i pins s σ H E I hf st hg
    obtain ⟨xs, hy⟩ := hg
    obtain ⟨fp, n, Pt, St, Mid, W, h1, h2, h3, h4⟩ := walk X hP hw hK hc i pins s σ H I hf st (.inl ⟨xs, hy⟩)
    obtain ⟨hi, hl, hin, hv⟩ := h4 xs hy
    subst hP hw hK
    refine W.item i s _ E hi h1 fun T vals h' tk hp hT ht hm hk => ?_
    refine ⟨.ref T, rfl, W.go elts kk tpos i T { s with heap := h', toks := tk } _ _ hm fun h'' hs hk' => ?_⟩
    have hT' : h''.IsTuple T vals := by
      obtain ⟨o, e, r⟩ := ht
      exact ⟨o, hk' T o (W.apart i T h' hm) e, r⟩
    have fresh : H T = none := I.hok.fresh hT
    have new : ObjOk X.prog X.w (upd H T (.tup xs)) h'' T (.tup xs) := ⟨hl, vals.toList, hv vals hp, hT'⟩
    refine ⟨.ref T, upd H T (.tup xs), I.turnedNew (t' := tk) (ch := wr) (fun b o hb e => hk' b o hb (hk b o hb e)) (fun b hb => hf b (sub b hb)) hT new, rfl, ⟨T, xs, rfl, fresh, rfl, hy, hin⟩, h2 h'' hs, fun b hb => ?_⟩
    obtain ⟨o, e, _⟩ := obj i s.heap st b hb
    have lt : b < s.heap.objs.size := Heap.lt_size e
    rw [upd_ne (Nat.ne_of_lt (Nat.lt_of_lt_of_le lt hT))]
    exact (hf b hb).1
  done := by
    intro X hP hw hK hc i pins s σ H E I hf st hg
    obtain ⟨fp, n, Pt, St, Mid, W, h1, h2, h3, h4⟩ := walk X hP hw hK hc i pins s σ H I hf st (.inr hg)
    have e := h3 hg
    subst hP hw hK e
    exact W.done s _ E h1 fun h' tk hk => ⟨rfl, I.turnedL (t' := tk) (ch := wr) hk fun b hb => hf b (sub b hb)⟩

/-! ### what is drawn from: a list, a tuple, a text -/
inductive Kd where
  | l (a : Addr) | t (a : Addr) | s (x : Str)
def Kd.st : Kd → Addr → Nat → Heap → Prop
  | .l a, it, i, h => h.IsListIter it a i
  | .t a, it, i, h => h.IsTupleIter it a i
  | .s x, it, i, h => ∃ t, h.IsStrIter it (strIterType x) x t i
def Kd.apart : Kd → Addr → Prop
  | .l a, b => b ≠ a
  | .t a, b => b ≠ a
  | .s _, _ => True
def charsV (x : Str) : List V := x.cps.toList.map fun c => .str ⟨#[c]⟩
def Kd.has (K : PySem.W.Frag) : Kd → Hp → List V → Prop
  | .l a, H, xs => SqL K H a xs
  | .t a, H, xs => SqT K H a xs
  | .s x, _, xs => xs = charsV x
theorem Kd.st_keep {κ : Kd} {it : Addr} {i : Nat} {h h' : Heap} (st : κ.st it i h) (k : ∀ o, h.get? it = some o → h'.get? it = some o) : κ.st it i h' := by
  cases κ with
  | l a => exact Heap.IsListIter.at st fun o e => k o e
  | t a => exact Heap.IsTupleIter.at st fun o e => k o e
  | s x =>
    obtain ⟨t, o, e, r⟩ := st
    exact ⟨t, o, k o e, r⟩
theorem Kd.st_obj {κ : Kd} {it : Addr} {i : Nat} {h : Heap} (st : κ.st it i h) : ∃ o, h.get? it = some o ∧ ∀ v, o.data ≠ .cell v := by
  cases κ with
  | l a =>
    obtain ⟨o, e, c, d⟩ := st
    exact ⟨o, e, fun v z => by rw [d] at z; cases z⟩
  | t a =>
    obtain ⟨o, e, c, d⟩ := st
    exact ⟨o, e, fun v z => by rw [d] at z; cases z⟩
  | s x =>
    obtain ⟨t, o, e, c, d⟩ := st
    exact ⟨o, e, fun v z => by rw [d] at z; cases z⟩
theorem Kd.draws {κ : Kd} {it : Addr} {i : Nat} {pins : List (Addr × Obj)} {σ : L2.St} {H : Hp} {s : Shared} {xs : List V} (I : Inv X pins σ H s) (hc : X.calm = true) (st : κ.st it i s.heap) (ap : κ.apart it) (ha : κ.has X.K H xs) :
    ∃ fp P St, it ∈ fp ∧ Draws X.prog X.w X.A.in1 it fp xs.length P St ∧ St i s.heap ∧ (∀ j h, St j h → κ.st it j h) ∧ (∀ j x u, xs[j]? = some x → P j u → RelV x u) ∧ (∀ b ∈ fp, b = it ∨ ∀ b', κ.apart b' → b' ≠ b) ∧ (∀ ys, κ.has X.K H ys → ys = xs) := by
  have hh : X.A.in1.handled = none := I.ok.hd hc
  have key : ∀ {its : List Value} {j : Nat} {x : V} {u : Value}, Vals xs its → xs[j]? = some x → its.toArray[j]? = some u → RelV x u := fun {its j x u} rv e1 e2 => by
    obtain ⟨u', h1, h2⟩ := rv.get e1
    rw [List.getElem?_toArray] at e2
    rw [e2] at h1
    cases h1
    exact h2
  cases κ with
  | l a =>
    obtain ⟨its, rv, p, hz⟩ := I.list ha
    have hl : its.toArray.size = xs.length := by rw [List.size_toArray, rv.length]
    refine ⟨[it, a], fun i v => its.toArray[i]? = some v, fun i h => h.IsListIter it a i ∧ h.IsList a its.toArray, List.mem_cons_self .., by rw [← hl]; exact Draws.list hh it a (Ne.symm ap) its.toArray, ⟨st, p.isList⟩, fun j h q => q.1, fun j x u e1 e2 => key rv e1 e2, fun b hb => ?_, fun ys hy => I.list_inj hy ha⟩
    rcases List.mem_cons.mp hb with q | q
    · exact .inl q
    · rw [List.mem_singleton.mp q]
      exact .inr fun b' q' => q'
  | t a =>
    obtain ⟨its, rv, p, hz⟩ := I.tuple ha
    have hl : its.toArray.size = xs.length := by rw [List.size_toArray, rv.length]
    refine ⟨[it, a], fun i v => its.toArray[i]? = some v, fun i h => h.IsTupleIter it a i ∧ h.IsTuple a its.toArray, List.mem_cons_self .., by rw [← hl]; exact Draws.tuple hh it a (Ne.symm ap) its.toArray, ⟨st, p⟩, fun j h q => q.1, fun j x u e1 e2 => key rv e1 e2, fun b hb => ?_, fun ys hy => I.tuple_inj hy ha⟩
    rcases List.mem_cons.mp hb with q | q
    · exact .inl q
    · rw [List.mem_singleton.mp q]
      exact .inr fun b' q' => q'
  | s x =>
    obtain ⟨t, st⟩ := st
    have hx : xs = charsV x := ha
    subst hx
    have hl : x.cps.size = (charsV x).length := by unfold charsV; rw [List.length_map, Array.length_toList]
    refine ⟨[it], fun i v => ∃ c u, x.cps[i]? = some c ∧ v = .str ⟨#[c]⟩ u, fun i h => h.IsStrIter it (strIterType x) x t i, List.mem_cons_self .., by rw [← hl]; exact Draws.text hh it x t, st, fun j h q => ⟨t, q⟩, fun j y u e1 e2 => ?_, fun b hb => .inl (List.mem_singleton.mp hb), fun ys hy => hy⟩
    obtain ⟨ch, k, e3, rfl⟩ := e2
    unfold charsV at e1
    rw [List.getElem?_map, Array.getElem?_toList, e3] at e1
    cases e1
    exact ⟨k, rfl⟩
end
end Ev
set_option linter.all false
set_option maxHeartbeats 4000000
set_option maxRecDepth 100000
namespace Ev
open PySem L2 Sem PyProof.Rows

def Kd.val : Kd → V
  | .l a => .ref a
  | .t a => .ref a
  | .s x => .str x
theorem kd_begins {X : Cx} {κ : Kd} {pins : List (Addr × Obj)} {σ : L2.St} {H : Hp} {s : Shared} {xs : List V} {u : Value} (I : Inv X pins σ H s) (ha : κ.has X.K H xs) (r : RelV κ.val u) :
    ∃ o Hh, Begins u o Hh ∧ Hh s.heap ∧ (∀ it h, h.get? it = some o → κ.st it 0 h) ∧ ∀ b, s.heap.objs.size ≤ b → κ.apart b := by
  cases κ with
  | l a =>
    obtain ⟨its, rv, p, hz⟩ := I.list ha
    obtain rfl : u = Value.ref a := r
    have lt : a < s.heap.objs.size := p.lt
    exact ⟨_, _, begins_list a its.toArray, p.isList, fun it h e => ⟨_, e, rfl, rfl⟩, fun b hb => Nat.ne_of_gt (Nat.lt_of_lt_of_le lt hb)⟩
  | t a =>
    obtain ⟨its, rv, p, hz⟩ := I.tuple ha
    obtain rfl : u = Value.ref a := r
    have lt : a < s.heap.objs.size := by
      obtain ⟨_, e, _⟩ := id p
      exact Heap.lt_size e
    exact ⟨_, _, begins_tuple a its.toArray, p, fun it h e => ⟨_, e, rfl, rfl⟩, fun b hb => Nat.ne_of_gt (Nat.lt_of_lt_of_le lt hb)⟩
  | s x =>
    obtain ⟨t, rfl⟩ := r
    exact ⟨_, _, begins_text x t, trivial, fun it h e => ⟨t, _, e, rfl, rfl⟩, fun _ _ => trivial⟩

/-! ### enumerate -/
theorem enum_new {v : Value} {o : Obj} {Hh : Heap → Prop} (B : Begins v o Hh) : Meets (Builtin.«enumerate.__new__» ⟨[.type "enumerate", v], []⟩) (fun _ R s => Hh s.heap ∧ R (.ok (.ret (.ref (s.heap.push o).objs.size)))
      { s with heap := (s.heap.push o).push { cls := .type "enumerate", data := .fields #[.none, .bool false, .ref s.heap.objs.size, rawInt 0, .none, .none] } }) :=
  .of_wp fun prog w A R s g => by
    obtain ⟨g1, g2⟩ := g
    obtain ⟨hp, gs, dr, tk, os⟩ := s
    have hsub := sub_enumerate
    have walked : ∀ {A' : Around} {E Q : Value → Shared → Prop}, Q (.ref hp.objs.size) ⟨hp.push o, gs, dr, tk, os⟩ → wpAny (model prog w) A' (pyIter v) Q E ⟨hp, gs, dr, tk, os⟩ := fun q => B.iter prog w _ _ ⟨hp, gs, dr, tk, os⟩ _ g1 q
    wp_walk using walked
    refine wpAny_stack_any fun stk => wpAny_pure ?_
    split
    case h_1 first _ _ _ _ _ =>
      generalize (first == Value.type "enumerate") = short
      cases short <;> (wp_walk using walked; exact ⟨_, rfl, g2⟩)
    all_goals (wp_walk using walked; exact ⟨_, rfl, g2⟩)

theorem enum_call {prog : PySem.Program} {w : PySem.World} {A : Around} {E : Value → Shared → Prop} {s : Shared} {v : Value} {o : Obj} {Hh : Heap → Prop} {Q : Value → Shared → Prop} (B : Begins v o Hh) (h1 : Hh s.heap)
    (q : ∀ h', IsEnum h' (s.heap.objs.size + 1) s.heap.objs.size 0 .none → h'.get? s.heap.objs.size = some o → (∀ b o, s.heap.get? b = some o → h'.get? b = some o) → Q (.ref (s.heap.objs.size + 1)) { s with heap := h' }) :
    wpAny (model prog w) A (call (.type "enumerate") [v]) Q E s := by
  have sz : (s.heap.push o).objs.size = s.heap.objs.size + 1 := Heap.size_push ..
  have last := Heap.get?_push_size (s.heap.push o) (o := { cls := .type "enumerate", data := .fields #[.none, .bool false, .ref s.heap.objs.size, rawInt 0, .none, .none] }) rfl
  rw [sz] at last
  refine callType_new F.called_enumerate (by decide) (F.typeCall_enumerate_1 _) (F.newCall_enumerate_1 _) (fun obj => F.args_object_init_2 obj _) F.entry_enumerate_new (enum_new B) ⟨h1, ?_⟩
  show _ ∧ _
  rw [sz]
  exact ⟨⟨_, last, rfl⟩, q _ last (Heap.get?_push_of_some _ (Heap.get?_push_size _ B.free)) fun b o x => Heap.get?_push_of_some _ (Heap.get?_push_of_some _ x)⟩

def YEn (K : PySem.W.Frag) (κ : Kd) : Nat → Hp → List V → Prop := fun i H ys => ∃ xs x, κ.has K H xs ∧ xs[i]? = some x ∧ ys = [.int (i : Nat), x]
def sEn (K : PySem.W.Frag) (κ : Kd) : Nat → Hp → Prop := fun i H => ∃ xs, κ.has K H xs ∧ xs.length = i
theorem turn_en {P : PySem.Program} {w : PySem.World} {K : PySem.W.Frag} {elts : List Expr} {kk : Nat} {tpos : Pos} (κ : Kd) (e it : Addr) :
    Turn P w K (.Tuple elts kk tpos) (Itw (YEn K κ) (sEn K κ)) [e, it] e (fun i h => (∃ old, IsEnum h e it ((i : Nat) : Int) old) ∧ κ.st it i h ∧ e ≠ it ∧ κ.apart it ∧ κ.apart e) := by
  refine turn_w (wr := [e, it]) (List.mem_cons_self ..) (fun b hb => hb) (fun i h st b hb => ?_) (fun i h h' st k => ?_) (fun A i s Q E st q => ?_) fun X hP hw hK hc i pins s σ H I hf st hg => ?_
  · obtain ⟨⟨old, he⟩, hi, _⟩ := st
    rcases List.mem_cons.mp hb with q | q
    · rw [q]
      exact ⟨_, he, fun v z => nomatch z⟩
    · rw [List.mem_singleton.mp q]
      exact Kd.st_obj hi
  · obtain ⟨⟨old, he⟩, hi, r⟩ := st
    exact ⟨⟨old, k e (by simp) _ he⟩, Kd.st_keep hi fun o q => k it (by simp) o q, r⟩
  · obtain ⟨⟨old, he⟩, _⟩ := st
    exact wpAny_pyIter_enum he q
  · obtain ⟨⟨old, he⟩, hi, hne, ap1, ap2⟩ := st
    subst hP hw hK
    have hx : ∃ xs, κ.has X.K H xs := by
      rcases hg with ⟨ys, xs, x, h, _⟩ | ⟨xs, h, _⟩
      · exact ⟨xs, h⟩
      · exact ⟨xs, h⟩
    obtain ⟨xs, hx⟩ := hx
    obtain ⟨fp, P', St', m, D, h1, h2, h3, h4, h5⟩ := Kd.draws I hc hi ap1 hx
    have hef : e ∉ fp := fun hm => by
      rcases h4 e hm with q | q
      · exact hne q
      · exact q e ap2 rfl
    refine ⟨_, _, _, _, _, WalksT.enumFrom 0 D e hne hef m, ⟨⟨old, by rw [Int.zero_add]; exact he⟩, h1⟩, fun h q => ?_, fun q => ?_, fun ys hy => ?_⟩
    · obtain ⟨⟨old', q1⟩, q2⟩ := q
      rw [Int.zero_add] at q1
      exact ⟨⟨old', q1⟩, h2 _ _ q2, hne, ap1, ap2⟩
    · obtain ⟨zs, z1, z2⟩ := q
      rw [h5 zs z1] at z2
      exact z2.symm
    · obtain ⟨zs, x, z1, z2, rfl⟩ := hy
      have e1 := h5 zs z1
      subst e1
      refine ⟨(List.getElem?_eq_some_iff.mp z2).1, by show 2 ≤ sizeLine; rw [sizeLine_eq]; decide, fun ys hy => ?_, fun vals hv => ?_⟩
      · obtain ⟨us, y, u1, u2, rfl⟩ := hy
        rw [h5 us u1, z2] at u2
        cases u2
        rfl
      · obtain ⟨t, u, v1, rfl⟩ := hv
        rw [Int.zero_add]
        exact .cons ⟨t, rfl⟩ (.cons (h3 i x u z2 v1) .nil)
def iEn (K : PySem.W.Frag) (ta : TA) : TI := fun σ H R => ta σ H fun vs H1 => ∃ κ xs, vs = [Kd.val κ] ∧ κ.has K H1 xs ∧ R (Itw (YEn K κ) (sEn K κ)) H1
theorem pi_en {X : Cx} {e : Expr} {ta : TA} {p pos tpos : Pos} {elts : List Expr} {kk : Nat} (hg : Gl X "enumerate") (hm : X.mg "enumerate" = none) (ha : PA X [e] ta) (hs : starEach [e] X.env = [(false, eval e X.env)]) :
    PI X (.Tuple elts kk tpos) (.Call (.Name "enumerate" p) [e] [] pos) (iEn X.K ta) := ⟨fun pins s σ H R I h => by
  refine Call_ (ld_blt I hg hm boot_enumerate (PyProof.Rows.callWith_type1 (thn (ha.run pos pins s σ H _ I h) fun us s1 ⟨vs, H1, I1, r1, q1⟩ => ?_) hs rfl))
  obtain ⟨κ, xs, rfl, hx, q⟩ := q1
  cases r1 with
  | cons r rr =>
    cases rr
    obtain ⟨o, Hh, B, b1, b2, b3⟩ := kd_begins I1 hx r
    refine enum_call B b1 fun h' he ho hk => wpAny_pyIter_enum he ?_
    refine ⟨s1.heap.objs.size + 1, [s1.heap.objs.size + 1, s1.heap.objs.size], _, _, H1, rfl, I1.kept (t' := s1.toks) hk, turn_en κ (s1.heap.objs.size + 1) s1.heap.objs.size, ⟨⟨.none, he⟩, b2 _ _ ho, Nat.succ_ne_self _, b3 _ (Nat.le_refl _), b3 _ (Nat.le_succ _)⟩, fun b hb => ?_, q⟩
    have hle : s1.heap.objs.size ≤ b := by
      rcases List.mem_cons.mp hb with z | z
      · rw [z]; exact Nat.le_succ _
      · rw [List.mem_singleton.mp z]; exact Nat.le_refl _
    exact I1.fpOk hle (I1.hok.fresh hle)⟩
end Ev
set_option linter.all false
set_option maxHeartbeats 4000000
set_option maxRecDepth 100000
namespace Ev
open PySem L2 Sem PyProof.Rows

/-! ### zip -/
def YZp (K : PySem.W.Frag) (κ μ : Kd) : Nat → Hp → List V → Prop := fun i H zs => ∃ xs ys x y, κ.has K H xs ∧ μ.has K H ys ∧ xs[i]? = some x ∧ ys[i]? = some y ∧ zs = [x, y]
def sZp (K : PySem.W.Frag) (κ μ : Kd) : Nat → Hp → Prop := fun i H => ∃ xs ys, κ.has K H xs ∧ μ.has K H ys ∧ min xs.length ys.length = i
structure ZpOk (κ μ : Kd) (z TI TO i1 i2 : Addr) : Prop where
  d1 : TI ≠ z
  d2 : TO ≠ z
  d3 : TI ≠ TO
  d4 : TI ≠ i1
  d5 : TI ≠ i2
  d6 : z ≠ i1
  d7 : z ≠ i2
  d8 : TO ≠ i1
  d9 : TO ≠ i2
  d0 : i1 ≠ i2
  a1 : κ.apart i1 ∧ κ.apart i2 ∧ κ.apart z ∧ κ.apart TO
  a2 : μ.apart i1 ∧ μ.apart i2 ∧ μ.apart z ∧ μ.apart TO
theorem turn_zp {P : PySem.Program} {w : PySem.World} {K : PySem.W.Frag} {elts : List Expr} {kk : Nat} {tpos : Pos} {κ μ : Kd} {z TI TO i1 i2 : Addr} (ok : ZpOk κ μ z TI TO i1 i2) :
    Turn P w K (.Tuple elts kk tpos) (Itw (YZp K κ μ) (sZp K κ μ)) [z, TI, TO, i1, i2] z (fun i h => IsZip h z TI TO .none ∧ IsTupOf2 h TI (.ref i1) (.ref i2) ∧ (∃ a b, IsTupOf2 h TO a b) ∧ κ.st i1 i h ∧ μ.st i2 i h) := by
  refine turn_w (wr := [z, TO, i1, i2]) (List.mem_cons_self ..) (fun b hb => ?_) (fun i h st b hb => ?_) (fun i h h' st k => ?_) (fun A i s Q E st q => wpAny_pyIter_zip st.1 q) fun X hP hw hK hc i pins s σ H I hf st hg => ?_
  · have e : b = z ∨ b = TO ∨ b = i1 ∨ b = i2 := by simpa using hb
    rcases e with e | e | e | e <;> (subst e; simp)
  · obtain ⟨q1, q2, ⟨a, b', q3⟩, q4, q5⟩ := st
    have e : b = z ∨ b = TI ∨ b = TO ∨ b = i1 ∨ b = i2 := by simpa using hb
    rcases e with e | e | e | e | e <;> subst e
    · exact ⟨_, q1, fun v z => nomatch z⟩
    · exact ⟨_, q2, fun v z => nomatch z⟩
    · exact ⟨_, q3, fun v z => nomatch z⟩
    · exact Kd.st_obj q4
    · exact Kd.st_obj q5
  · obtain ⟨q1, q2, ⟨a, b', q3⟩, q4, q5⟩ := st
    exact ⟨k z (by simp) _ q1, k TI (by simp) _ q2, ⟨a, b', k TO (by simp) _ q3⟩, Kd.st_keep q4 fun o q => k i1 (by simp) o q, Kd.st_keep q5 fun o q => k i2 (by simp) o q⟩
  · obtain ⟨q1, q2, q3, q4, q5⟩ := st
    subst hP hw hK
    have hx : ∃ xs ys, κ.has X.K H xs ∧ μ.has X.K H ys := by
      rcases hg with ⟨zs, xs, ys, x, y, h1, h2, _⟩ | ⟨xs, ys, h1, h2, _⟩
      · exact ⟨xs, ys, h1, h2⟩
      · exact ⟨xs, ys, h1, h2⟩
    obtain ⟨xs, ys, hx, hy⟩ := hx
    obtain ⟨fp1, P1, St1, m1, D1, b1, b2, b3, b4, b5⟩ := Kd.draws I hc q4 ok.a1.1 hx
    obtain ⟨fp2, P2, St2, m2, D2, e1, e2, e3, e4, e5⟩ := Kd.draws I hc q5 ok.a2.2.1 hy
    have out1 : ∀ b, b ≠ i1 → κ.apart b → b ∉ fp1 := fun b n ap hm => by
      rcases b4 b hm with q | q
      · exact n q
      · exact q b ap rfl
    have out2 : ∀ b, b ≠ i2 → μ.apart b → b ∉ fp2 := fun b n ap hm => by
      rcases e4 b hm with q | q
      · exact n q
      · exact q b ap rfl
    have sep : ZipSep2 z TI TO i1 i2 fp1 fp2 := ⟨ok.d1, ok.d2, ok.d3, ok.d4, m1, out1 z ok.d6 ok.a1.2.2.1, out1 TO ok.d8 ok.a1.2.2.2, ok.d5, m2, out2 z ok.d7 ok.a2.2.2.1, out2 TO ok.d9 ok.a2.2.2.2, out2 i1 ok.d0 ok.a2.1, out1 i2 (Ne.symm ok.d0) ok.a1.2.1⟩
    refine ⟨_, _, _, _, _, WalksT.zipD2 sep D1 D2, ⟨q1, q2, q3, b1, e1⟩, fun h q => ?_, fun q => ?_, fun zs hz => ?_⟩
    · obtain ⟨r1, r2, r3, r4, r5⟩ := q
      exact ⟨r1, r2, r3, b2 _ _ r4, e2 _ _ r5⟩
    · obtain ⟨us, vs, r1, r2, r3⟩ := q
      rw [b5 us r1, e5 vs r2] at r3
      exact r3.symm
    · obtain ⟨us, vs, x, y, r1, r2, r3, r4, rfl⟩ := hz
      have f1 := b5 us r1
      have f2 := e5 vs r2
      subst f1 f2
      refine ⟨?_, by show 2 ≤ sizeLine; rw [sizeLine_eq]; decide, fun zs hz => ?_, fun vals hv => ?_⟩
      · have l1 := (List.getElem?_eq_some_iff.mp r3).1
        have l2 := (List.getElem?_eq_some_iff.mp r4).1
        omega
      · obtain ⟨us', vs', x', y', s1, s2, s3, s4, rfl⟩ := hz
        rw [b5 us' s1, r3] at s3
        rw [e5 vs' s2, r4] at s4
        cases s3
        cases s4
        rfl
      · obtain ⟨u1, u2, v1, v2, rfl⟩ := hv
        exact .cons (b3 i x u1 r3 v1) (.cons (e3 i y u2 r4 v2) .nil)
def iZp (K : PySem.W.Frag) (ta : TA) : TI := fun σ H R => ta σ H fun vs H1 => ∃ κ μ xs ys, vs = [Kd.val κ, Kd.val μ] ∧ κ.has K H1 xs ∧ μ.has K H1 ys ∧ R (Itw (YZp K κ μ) (sZp K κ μ)) H1
theorem pi_zp {X : Cx} {e e2 : Expr} {ta : TA} {p pos tpos : Pos} {elts : List Expr} {kk : Nat} (hg : Gl X "zip") (hm : X.mg "zip" = none) (ha : PA X [e, e2] ta)
    (hs : starEach [e, e2] X.env = (false, eval e X.env) :: starEach [e2] X.env) (hpl : (backTo pos (starEach [e2] X.env)).any (·.1) = false) :
    PI X (.Tuple elts kk tpos) (.Call (.Name "zip" p) [e, e2] [] pos) (iZp X.K ta) := ⟨fun pins s σ H R I h => by
  refine Call_ (ld_blt I hg hm PyProof.Rows.boot_zip (PyProof.Rows.callWith_type1 (thn (ha.run pos pins s σ H _ I h) fun us s1 ⟨vs, H1, I1, r1, q1⟩ => ?_) hs hpl))
  obtain ⟨κ, μ, xs, ys, rfl, hx, hy, q⟩ := q1
  cases r1 with
  | cons r rr =>
    cases rr with
    | cons r' rr =>
      cases rr
      obtain ⟨o1, Hh1, B1, b1, b2, b3⟩ := kd_begins I1 hx r
      obtain ⟨o2, Hh2, B2, e1, e2, e3⟩ := kd_begins I1 hy r'
      refine zip_begins2 B1 B2 b1 e1 fun h' g1 g2 g3 g4 g5 _ hk => wpAny_pyIter_zip g1 ?_
      have le : ∀ {b : Addr}, b ∈ [s1.heap.objs.size + 4, s1.heap.objs.size + 2, s1.heap.objs.size + 3, s1.heap.objs.size, s1.heap.objs.size + 1] → s1.heap.objs.size ≤ b := fun {b} hb => by
        have e' : b = s1.heap.objs.size + 4 ∨ b = s1.heap.objs.size + 2 ∨ b = s1.heap.objs.size + 3 ∨ b = s1.heap.objs.size ∨ b = s1.heap.objs.size + 1 := by simpa using hb
        rcases e' with q | q | q | q | q <;> rw [q] <;> first | exact Nat.le_refl _ | exact Nat.le_add_right _ _
      have ne : ∀ a b : Nat, a ≠ b → s1.heap.objs.size + a ≠ s1.heap.objs.size + b := fun a b n q => n (Nat.add_left_cancel q)
      have ap1 : ∀ n, κ.apart (s1.heap.objs.size + n) := fun n => b3 _ (Nat.le_add_right _ _)
      have ap2 : ∀ n, μ.apart (s1.heap.objs.size + n) := fun n => e3 _ (Nat.le_add_right _ _)
      have ok : ZpOk κ μ (s1.heap.objs.size + 4) (s1.heap.objs.size + 2) (s1.heap.objs.size + 3) s1.heap.objs.size (s1.heap.objs.size + 1) :=
        ⟨ne 2 4 (by decide), ne 3 4 (by decide), ne 2 3 (by decide), ne 2 0 (by decide), ne 2 1 (by decide), ne 4 0 (by decide), ne 4 1 (by decide), ne 3 0 (by decide), ne 3 1 (by decide), ne 0 1 (by decide), ⟨ap1 0, ap1 1, ap1 4, ap1 3⟩, ⟨ap2 0, ap2 1, ap2 4, ap2 3⟩⟩
      exact ⟨_, _, _, _, H1, rfl, I1.kept (t' := s1.toks) hk, turn_zp ok, ⟨g1, g2, ⟨_, _, g3⟩, b2 _ _ g4, e2 _ _ g5⟩, fun b hb => I1.fpOk (le hb) (I1.hok.fresh (le hb)), q⟩⟩
end Ev
set_option linter.all false
set_option maxHeartbeats 2000000
namespace Ev
open PySem L2

/-! ## targets: names, and tuples of them -/
mutual
def asgD (fr : Fr) : Expr → D → Env → Option Env
  | .Name x _, d, σ => if isLoc fr x then (idx fr.N x).map fun i => σ.set i (some (.d d)) else none
  | .Tuple ts _ _, .tup xs, σ => if xs.length = ts.length then asgDs fr ts xs σ else none
  | .Tuple ts _ _, .lst xs, σ => if xs.length = ts.length then asgDs fr ts xs σ else none
  | _, _, _ => none
def asgDs (fr : Fr) : List Expr → List D → Env → Option Env
  | [], [], σ => some σ
  | t :: ts, x :: xs, σ => match asgD fr t x σ with
    | some σ1 => asgDs fr ts xs σ1
    | none => none
  | _, _, _ => none
end
/-- the slots that a target's names have -/
def slotsOf (fr : Fr) : Expr → List Nat
  | .Name x _ => (idx fr.N x).toList
  | .Tuple ts _ _ => slotsOfs ts
  | _ => []
where slotsOfs : List Expr → List Nat
  | [] => []
  | t :: ts => slotsOf fr t ++ slotsOfs ts
/-- no other slot has changed -/
def Kept (vs : List Nat) (τ τ' : L2.St) : Prop := τ'.length = τ.length ∧ ∀ i, i ∉ vs → τ'[i]? = τ[i]?
def tG (c : Cs) (vs : List Nat) (g : D → Env → Option Env) : TG := fun v τ H Q => ∃ σ S F ρ d σ', At c σ S τ F H ρ ∧ Rep c F v d ∧ g d σ = some σ' ∧ ∀ τ', At c σ' S τ' F H ρ → Kept vs τ τ' → Q τ' H
def tGs (c : Cs) (ix : List Nat) (g : List D → Env → Option Env) : TGs := fun vs τ H Q => ∃ σ S F ρ ds σ', At c σ S τ F H ρ ∧ Reps c F vs ds ∧ g ds σ = some σ' ∧ ∀ τ', At c σ' S τ' F H ρ → Kept ix τ τ' → Q τ' H
def isTupE : Expr → Bool
  | .Tuple _ _ _ => true | _ => false
def tgOk : Expr → Bool
  | .Name _ _ => true
  | .Tuple ts _ _ => tgsOk ts
  | _ => false
where tgsOk : List Expr → Bool
  | [] => true
  | t :: ts => tgOk t && tgsOk ts
theorem tg_plain {t : Expr} (h : tgOk t = true) : isStar t = false := by
  cases t <;> first | rfl | cases h
theorem each_plain : ∀ {ts : List Expr} {env : PySem.Env}, tgOk.tgsOk ts = true → assignEach ts env = ts.map fun t => (false, assign t env)
  | [], _, _ => rfl
  | t :: ts, env, h => by
    unfold tgOk.tgsOk at h
    rw [Bool.and_eq_true] at h
    have ht := tg_plain h.1
    have e : assignEach (t :: ts) env = (false, assign t env) :: assignEach ts env := by
      cases t <;> first | rfl | cases ht
    rw [e, each_plain h.2]
    rfl
theorem none_star {α β : Type} (f : α → β) : ∀ ts : List α, (ts.map fun t => ((false, f t) : Bool × β)).findIdx? (·.1) = none
  | [] => rfl
  | t :: ts => by
    rw [List.map_cons, List.findIdx?_cons]
    show Option.map _ _ = none
    rw [none_star f ts]
    rfl
section
variable {c : Cs} {G : Gm} {fr : Fr} {X : Cx}
theorem pg_imp {e : Expr} {t t' : TG} (h : PG X e t) (i : ∀ v τ H Q, t' v τ H Q → t v τ H Q) : PG X e t' := ⟨fun pins s τ H v u Q I r q => h.run pins s τ H v u Q I r (i v τ H Q q)⟩
theorem pg_no {e : Expr} {ix : List Nat} {g : D → Env → Option Env} (h : ∀ d σ, g d σ = none) : PG X e (tG c ix g) := ⟨fun pins s τ H v u Q I r q => by
  obtain ⟨σ, S, F, ρ, d, σ', _, _, e, _⟩ := q
  rw [h] at e
  cases e⟩
mutual
theorem jg (ok : XOk c G fr X) : ∀ t : Expr, tgOk t = true → PG X t (tG c (slotsOf fr t) (asgD fr t))
  | .Name x p, _ => by
    by_cases hl : isLoc fr x = true
    · cases hi : idx fr.N x with
      | none => exact pg_no fun d σ => by unfold asgD; rw [if_pos hl, hi]; rfl
      | some i =>
        have hf : X.fn x = true ∨ X.env.scope.names.lookup x = some .local := by
          rcases ok.fnm x with h | h | h
          · exact .inl h
          · exact .inr h
          · rw [hl] at h
            cases h
        refine pg_imp (pg_name (i := i) ok.nd (by rw [ok.N]; exact idx_get hi) (isLoc_loc ok hl) hf) fun v τ H Q q => ?_
        obtain ⟨σ, S, F, ρ, d, σ', a, r, e, k⟩ := q
        unfold asgD at e
        rw [if_pos hl, hi] at e
        cases e
        refine k _ ⟨a.env.set (.d r) i, a.st⟩ ⟨by rw [List.length_set], fun j hj => ?_⟩
        have hj : j ≠ i := fun e => hj (by
          unfold slotsOf
          rw [hi, e]
          exact List.mem_singleton.mpr rfl)
        rw [List.getElem?_set_ne (Ne.symm hj)]
    · exact pg_no fun d σ => by unfold asgD; rw [if_neg hl]
  | .Tuple ts kk p, h => by
    have ht : tgOk.tgsOk ts = true := by unfold tgOk at h; exact h
    have hs := jgs ok ts ht
    have e1 := each_plain (env := X.env) ht
    have n1 : (assignEach ts X.env).length = ts.length := by rw [e1, List.length_map]
    have n2 : (assignEach ts X.env).findIdx? (·.1) = none := by rw [e1]; exact none_star _ ts
    refine ⟨fun pins s τ H v u Q I r q => ?_⟩
    obtain ⟨σ, S, F, ρ, d, σ', a, rp, e, k⟩ := q
    cases d with
    | tup xs =>
      rw [show asgD fr (.Tuple ts kk p) (.tup xs) σ = if xs.length = ts.length then asgDs fr ts xs σ else none by unfold asgD; rfl] at e
      split at e
      · rename_i hl
        cases rp with
        | tup ha rs => exact (pg_tup ok.calm hs n1 n2).run pins s τ H _ u Q I r ⟨_, _, rfl, SqT.of (a.st.sub _ _ ha), by rw [rs.length, hl], σ, S, F, ρ, _, σ', a, rs, e, k⟩
      · cases e
    | lst xs =>
      rw [show asgD fr (.Tuple ts kk p) (.lst xs) σ = if xs.length = ts.length then asgDs fr ts xs σ else none by unfold asgD; rfl] at e
      split at e
      · rename_i hl
        cases rp with
        | lst ha rs => exact (pg_lst ok.calm hs n1 n2).run pins s τ H _ u Q I r ⟨_, _, rfl, SqL.of (a.st.sub _ _ ha), by rw [rs.length, hl], σ, S, F, ρ, _, σ', a, rs, e, k⟩
      · cases e
    | _ =>
      unfold asgD at e
      cases e
theorem jgs (ok : XOk c G fr X) : ∀ ts : List Expr, tgOk.tgsOk ts = true → PGs X ts (tGs c (slotsOf.slotsOfs fr ts) (asgDs fr ts))
  | [], _ => ⟨fun pins s τ H vs us Q I r q => pgs_nil.run pins s τ H vs us Q I r (by
    obtain ⟨σ, S, F, ρ, ds, σ', a, rs, e, k⟩ := q
    cases rs with
    | nil =>
      cases e
      exact ⟨rfl, k τ a ⟨rfl, fun _ _ => rfl⟩⟩
    | cons _ _ => cases e)⟩
  | t :: ts, h => by
    have h' := h
    unfold tgOk.tgsOk at h'
    rw [Bool.and_eq_true] at h'
    have e1 := each_plain (env := X.env) h
    have e2 := each_plain (env := X.env) h'.2
    refine ⟨fun pins s τ H vs us Q I r q => (pgs_cons (jg ok t h'.1) (jgs ok ts h'.2) (by rw [e1, e2]; rfl)).run pins s τ H vs us Q I r ?_⟩
    obtain ⟨σ, S, F, ρ, ds, σ', a, rs, e, k⟩ := q
    cases rs with
    | nil => cases e
    | cons r0 rs =>
      unfold asgDs at e
      split at e
      · rename_i σ1 h1
        refine ⟨_, _, rfl, σ, S, F, ρ, _, σ1, a, r0, h1, fun τ' a' k1 => ⟨σ1, S, F, ρ, _, σ', a', rs, e, fun τ2 a2 k2 => k τ2 a2 ⟨k2.1.trans k1.1, fun i hi => ?_⟩⟩⟩
        have hi' : i ∉ slotsOf fr t ++ slotsOf.slotsOfs fr ts := hi
        rw [List.mem_append, not_or] at hi'
        rw [k2.2 i hi'.2, k1.2 i hi'.1]
      · cases e
end
end
end Ev
set_option linter.all false
set_option maxHeartbeats 2000000
namespace Ev
open PySem L2

/-! ## what is walked, by the written form -/
def seqD : D → Option (List D)
  | .lst xs => some xs | .tup xs => some xs | .ktup xs => some xs | .str z => some (charsD z) | _ => none
def srcO : RV → Store → Option Src
  | .w (.ref n), S => match S[n]? with
    | some (.lst _) => some (.cell n false)
    | _ => none
  | rv, _ => match rv.toW with
    | .d d => (seqD d).map .fix
    | _ => none
def enO : W → Store → Option Src
  | .ref n, S => match S[n]? with
    | some (.lst _) => some (.cell n true)
    | _ => none
  | .d d, _ => (seqD d).map fun xs => .fix (enumFrom 0 xs)
  | _, _ => none
def zpO : W → W → Option Src
  | .d d, .d e => match seqD d, seqD e with
    | some xs, some ys => some (.fix (zipD xs ys))
    | _, _ => none
  | _, _ => none
def rgO : W → W → Option Src
  | .d (.int i), .d (.int j) => if bRg i && bRg j then some (.fix (rangeD i j)) else none
  | _, _ => none
def rgO1 : W → Option Src
  | .d (.int j) => if bRg j then some (.fix (rangeD 0 j)) else none
  | _ => none
def optS (o : Option Src) (S : Store) : Out Src := match o with
  | some x => .ok x S
  | none => .bad
section
variable {c : Cs} {G : Gm} {fr : Fr} {X : Cx} {Xw : XW} {R : Rec}

/-- a sequence, as it is drawn from -/
theorem kd_of (hK : X.K = c.K) {F : Hp} {v : V} {d : D} {xs : List D} (r : Rep c F v d) (e : seqD d = some xs) : ∃ κ vs, v = Kd.val κ ∧ (∀ F' H, Same F F' → Same F' H → κ.has X.K H vs) ∧ Reps c F vs xs := by
  cases r with
  | tup h rs =>
    cases e
    exact ⟨.t _, _, rfl, fun F' H s1 s2 => SqT.of (s2 _ _ (s1 _ _ h)), rs⟩
  | ktup h z rs =>
    cases e
    exact ⟨.t _, _, rfl, fun F' H s1 s2 => by rw [hK]; exact h H, rs⟩
  | lst h rs =>
    cases e
    exact ⟨.l _, _, rfl, fun F' H s1 s2 => SqL.of (s2 _ _ (s1 _ _ h)), rs⟩
  | str z =>
    cases e
    refine ⟨.s z, charsV z, rfl, fun F' H s1 s2 => rfl, ?_⟩
    unfold charsV charsD
    generalize z.cps.toList = l
    induction l with
    | nil => exact .nil
    | cons a t ih => exact .cons (.str _) ih
  | _ => cases e
/-- a pair just made -/
theorem pair_step {F' H : Hp} {ρ' : List Addr} {S : Store} (sr : SRep c F' H ρ' S) {T : Addr} {v u : V} {x y : D} (hT : H T = none) (r1 : Rep c F' v x) (r2 : Rep c F' u y) :
    ∃ F2, Step F' ρ' H F2 ρ' (upd H T (.tup [v, u])) ∧ SRep c F2 (upd H T (.tup [v, u])) ρ' S ∧ Rep c F2 (.ref T) (.tup [x, y]) := by
  obtain ⟨s1, s2⟩ := new_frz (o := .tup [v, u]) sr hT
  have hs : Same F' (upd F' T (.tup [v, u])) := same_upd (fresh_F sr hT)
  exact ⟨_, s1, s2, .tup upd_same (.cons (r1.mono hs) (.cons (r2.mono hs) .nil))⟩
theorem enumFrom_get : ∀ (xs : List D) (k i : Nat) (d : D), (enumFrom k xs)[i]? = some d → ∃ x, xs[i]? = some x ∧ d = .tup [.int ((k + i : Nat) : Int), x]
  | [], k, i, d, e => by simp [enumFrom] at e
  | x :: xs, k, 0, d, e => by
    simp [enumFrom] at e
    exact ⟨x, rfl, by rw [← e]; rfl⟩
  | x :: xs, k, i + 1, d, e => by
    unfold enumFrom at e
    rw [List.getElem?_cons_succ] at e
    obtain ⟨y, h1, h2⟩ := enumFrom_get xs (k + 1) i d e
    exact ⟨y, by simpa using h1, by rw [h2, show k + 1 + i = k + (i + 1) by omega]⟩
theorem enumFrom_len : ∀ (xs : List D) (k : Nat), (enumFrom k xs).length = xs.length
  | [], _ => rfl
  | x :: xs, k => by
    show (enumFrom (k + 1) xs).length + 1 = _
    rw [enumFrom_len xs]
    rfl
theorem zipD_get : ∀ (xs ys : List D) (i : Nat) (d : D), (zipD xs ys)[i]? = some d → ∃ x y, xs[i]? = some x ∧ ys[i]? = some y ∧ d = .tup [x, y]
  | [], _, i, d, e => by simp [zipD] at e
  | x :: xs, [], i, d, e => by simp [zipD] at e
  | x :: xs, y :: ys, 0, d, e => by
    simp [zipD] at e
    exact ⟨x, y, rfl, rfl, e.symm⟩
  | x :: xs, y :: ys, i + 1, d, e => by
    unfold zipD at e
    rw [List.getElem?_cons_succ] at e
    obtain ⟨u, v, h1, h2, h3⟩ := zipD_get xs ys i d e
    exact ⟨u, v, by simpa using h1, by simpa using h2, h3⟩
theorem zipD_len : ∀ (xs ys : List D), (zipD xs ys).length = min xs.length ys.length
  | [], ys => by simp [zipD]
  | x :: xs, [] => by simp [zipD]
  | x :: xs, y :: ys => by
    unfold zipD
    rw [List.length_cons, List.length_cons, List.length_cons, zipD_len xs ys]
    omega
theorem src_en {F : Hp} {ρ : List Addr} {κ : Kd} {vs : List V} {xs : List D} (h : ∀ F' H, Same F F' → Same F' H → κ.has X.K H vs) (r : Reps c F vs xs) : SrcOk c F ρ (Itw (YEn X.K κ) (sEn X.K κ)) (curOf (.fix (enumFrom 0 xs))) := by
  intro F' H ρ' S i sF pr sr
  have hh := h F' H sF sr.sub
  refine ⟨fun e => ⟨vs, hh, by rw [r.length, ← curF_none e, enumFrom_len]⟩, fun d e => ?_⟩
  obtain ⟨x, hx, rfl⟩ := enumFrom_get xs 0 i d (curF_some e)
  obtain ⟨v, hv, rv⟩ := r.get hx
  refine ⟨⟨[.int (i : Nat), v], vs, v, hh, hv, rfl⟩, fun y H' z => ?_⟩
  obtain ⟨T, zs, rfl, hT, rfl, hy, huq⟩ := z
  have e2 := huq [.int (i : Nat), v] ⟨vs, v, hh, hv, rfl⟩
  subst e2
  rw [Nat.zero_add]
  exact pair_step sr hT (.int _) (rv.mono sF)
theorem src_zp {F : Hp} {ρ : List Addr} {κ μ : Kd} {vs us : List V} {xs ys : List D} (h : ∀ F' H, Same F F' → Same F' H → κ.has X.K H vs) (h' : ∀ F' H, Same F F' → Same F' H → μ.has X.K H us) (r : Reps c F vs xs) (r' : Reps c F us ys) :
    SrcOk c F ρ (Itw (YZp X.K κ μ) (sZp X.K κ μ)) (curOf (.fix (zipD xs ys))) := by
  intro F' H ρ' S i sF pr sr
  have hh := h F' H sF sr.sub
  have hh' := h' F' H sF sr.sub
  refine ⟨fun e => ⟨vs, us, hh, hh', by rw [r.length, r'.length, ← zipD_len]; exact curF_none e⟩, fun d e => ?_⟩
  obtain ⟨x, y, hx, hy, rfl⟩ := zipD_get xs ys i d (curF_some e)
  obtain ⟨v, hv, rv⟩ := r.get hx
  obtain ⟨u, hu, ru⟩ := r'.get hy
  refine ⟨⟨[v, u], vs, us, v, u, hh, hh', hv, hu, rfl⟩, fun y H' z => ?_⟩
  obtain ⟨T, zs, rfl, hT, rfl, hy, huq⟩ := z
  have e2 := huq [v, u] ⟨vs, us, v, u, hh, hh', hv, hu, rfl⟩
  subst e2
  exact pair_step sr hT (rv.mono sF) (ru.mono sF)
theorem src_encell {F : Hp} {ρ : List Addr} {a : Addr} {n : Nat} (hn : ρ[n]? = some a) : SrcOk c F ρ (Itw (YEn X.K (.l a)) (sEn X.K (.l a))) (curOf (.cell n true)) := by
  intro F' H ρ' S i sF pr sr
  have hn' : ρ'[n]? = some a := by
    obtain ⟨t, rfl⟩ := pr
    rw [List.getElem?_append_left (List.getElem?_eq_some_iff.mp hn).1]
    exact hn
  refine ⟨fun e => ?_, fun d e => ?_⟩
  · obtain ⟨ws, hS, hl⟩ := curC_none e
    obtain ⟨vs, ha, r⟩ := sr.cell n _ a hS hn'
    exact ⟨vs, SqL.of ha, by rw [Paired.len r]; exact hl⟩
  · obtain ⟨ws, x, hS, hx, rfl⟩ := curC_some e
    obtain ⟨vs, ha, r⟩ := sr.cell n _ a hS hn'
    have hq : SqL X.K H a vs := SqL.of ha
    obtain ⟨v, hv, rv⟩ := Paired.getP r hx
    refine ⟨⟨[.int (i : Nat), v], vs, v, hq, hv, rfl⟩, fun y H' z => ?_⟩
    obtain ⟨T, zs, rfl, hT, rfl, hy, huq⟩ := z
    have e2 := huq [.int (i : Nat), v] ⟨vs, v, hq, hv, rfl⟩
    subst e2
    cases rv with
    | d rv => exact pair_step sr hT (.int _) rv
theorem src_rg {F : Hp} {ρ : List Addr} {lo hi : Int} : SrcOk c F ρ (Itr lo (hi - lo).toNat) (curOf (.fix (rangeD lo hi))) := by
  intro F' H ρ' S i sF pr sr
  refine ⟨fun e => ?_, fun d e => ?_⟩
  · have e2 := curF_none e
    unfold rangeD at e2
    rw [List.length_map, List.length_range] at e2
    exact Nat.le_of_eq e2
  · have e := curF_some e
    unfold rangeD at e
    rw [List.getElem?_map] at e
    cases hc : (List.range (hi - lo).toNat)[i]? with
    | none =>
      rw [hc] at e
      cases e
    | some k =>
      rw [hc] at e
      cases e
      have h1 := List.getElem?_eq_some_iff.mp hc
      obtain ⟨h2, h3⟩ := h1
      rw [List.getElem_range] at h3
      subst h3
      rw [List.length_range] at h2
      refine ⟨h2, fun x H' z => ?_⟩
      obtain ⟨rfl, rfl⟩ := z
      exact ⟨F', Step.refl _ _ _, sr, .int _⟩

/-! ### the iterators -/
theorem pi_bad {tg it : Expr} : PI X tg it (tI c Xw fun _ _ => .bad) := ⟨fun pins s τ H Q I h => by
  obtain ⟨σ, S, F, ρ, a, q⟩ := h
  exact q.elim⟩
theorem ji_of {tg it : Expr} {f : Env → Store → Out RV} {t : TI} (hp : PI X tg it t) {pins : List (Addr × Obj)} {s : Shared} {τ : L2.St} {H : Hp} {Q : It → Hp → Prop} (I : L2.Inv X pins τ H s) {σ : Env} {S : Store} {F : Hp} {ρ : List Addr} (a : At c σ S τ F H ρ) (h : t τ H Q) :
    wpAny (model X.prog X.w) X.A (eval it X.env) (fun v s1 => wpAny (model X.prog X.w) X.A (pyIter v) (PIE X pins τ tg Q) X.xe s1) X.xe s := hp.run pins s τ H Q I h
theorem ji_any (ok : XOk c G fr X) {tg it : Expr} {f : Env → Store → Out RV} (he : PE X it (tE c Xw f)) : PI X tg it (tI c Xw fun σ S => (f σ S).bind fun v S1 => optS (srcO v S1) S1) := by
  refine ⟨fun pins s τ H Q I h => ?_⟩
  obtain ⟨σ, S, F, ρ, a, q⟩ := h
  dsimp only at q
  cases e : f σ S with
  | bad =>
    rw [e] at q
    exact q.elim
  | exc n fs S' =>
    refine (pi_list he).run pins s τ H Q I (tE_mk a ?_)
    rw [e]
    rw [e] at q
    exact q
  | ok rv S1 =>
    have look : ∀ {K : RV → Prop} {t : V → Hp → Prop}, (∀ v F1 H1 ρ1, Step F ρ H F1 ρ1 H1 → SRep c F1 H1 ρ1 S1 → VRep c F1 H1 ρ1 H v rv → t v H1) → tE c Xw f τ H t := fun {K t} k => tE_mk a (by
      rw [e]
      exact fun F1 H1 ρ1 st sr v vr => k v F1 H1 ρ1 st sr vr)
    rw [e] at q
    have q : QO c Xw τ F ρ H (optS (srcO rv S1) S1) _ := q
    have seqs : ∀ d, rv.toW = .d d → srcO rv S1 = (seqD d).map .fix → wpAny (model X.prog X.w) X.A (eval it X.env) (fun v s1 => wpAny (model X.prog X.w) X.A (pyIter v) (PIE X pins τ tg Q) X.xe s1) X.xe s := by
      intro d hd hs
      rw [hs] at q
      cases hx : seqD d with
      | none =>
        rw [hx] at q
        exact q.elim
      | some xs =>
        rw [hx] at q
        cases d with
        | lst ys =>
          cases hx
          refine (pi_list he).run pins s τ H Q I (look (K := fun _ => True) fun v F1 H1 ρ1 st sr vr => ?_)
          obtain ⟨F2, s2, st2, sr2, wr⟩ := toW_rep sr st vr
          rw [hd] at wr
          cases wr with
          | d r => 
            cases r with
            | lst ha r => exact ⟨_, rfl, ⟨_, SqL.of (sr2.sub _ _ ha)⟩, QO.at q st sr _ F2 s2 st2 sr2 (src_list ok.K ha r)⟩
        | tup ys =>
          cases hx
          refine (pi_tup he).run pins s τ H Q I (look (K := fun _ => True) fun v F1 H1 ρ1 st sr vr => ?_)
          obtain ⟨F2, s2, st2, sr2, wr⟩ := toW_rep sr st vr
          rw [hd] at wr
          cases wr with
          | d r => 
            cases r with
            | tup ha r => exact ⟨_, rfl, ⟨_, SqT.of (sr2.sub _ _ ha)⟩, QO.at q st sr _ F2 s2 st2 sr2 (src_tup (fun F' H s1 s2 => SqT.of (s2 _ _ (s1 _ _ ha))) r)⟩
        | ktup ys =>
          cases hx
          refine (pi_tup he).run pins s τ H Q I (look (K := fun _ => True) fun v F1 H1 ρ1 st sr vr => ?_)
          obtain ⟨F2, s2, st2, sr2, wr⟩ := toW_rep sr st vr
          rw [hd] at wr
          cases wr with
          | d r => 
            cases r with
            | ktup ha z r => exact ⟨_, rfl, ⟨_, by rw [ok.K]; exact ha H1⟩, QO.at q st sr _ F2 s2 st2 sr2 (src_tup (fun F' H s1 s2 => by rw [ok.K]; exact ha H) r)⟩
        | str z =>
          cases hx
          refine (pi_str he).run pins s τ H Q I (look (K := fun _ => True) fun v F1 H1 ρ1 st sr vr => ?_)
          obtain ⟨F2, s2, st2, sr2, wr⟩ := toW_rep sr st vr
          rw [hd] at wr
          cases wr with
          | d r => 
            cases r with
            | str => exact ⟨z, rfl, QO.at q st sr _ F2 s2 st2 sr2 src_str⟩
        | _ => cases hx
    cases rv with
    | own xs => exact seqs _ rfl rfl
    | ownd b ks xs => exact seqs _ rfl rfl
    | w w =>
      cases w with
      | d x => exact seqs x rfl rfl
      | ex n fs => exact q.elim
      | ref n =>
        have e2 : srcO (.w (.ref n)) S1 = match S1[n]? with
          | some (.lst _) => some (.cell n false)
          | _ => none := rfl
        rw [e2] at q
        split at q
        · rename_i ws hS
          refine (pi_list he).run pins s τ H Q I (look (K := fun _ => True) fun v F1 H1 ρ1 st sr vr => ?_)
          cases vr with
          | ref hn =>
            obtain ⟨vs, ha, r⟩ := sr.cell n _ _ hS hn
            exact ⟨_, rfl, ⟨_, SqL.of ha⟩, QO.at q st sr _ F1 (Same.refl _) st sr (src_cell hn)⟩
        · exact q.elim
theorem tup_of {tg : Expr} (h : isTupE tg = true) : ∃ es k p, tg = .Tuple es k p := by
  cases tg <;> first | exact ⟨_, _, _, rfl⟩ | cases h
def enS (ws : List W) (S : Store) : Out Src := match ws with
  | [w] => optS (enO w S) S
  | _ => .bad
def zpS (ws : List W) (S : Store) : Out Src := match ws with
  | [w, u] => optS (zpO w u) S
  | _ => .bad
def rgS (ws : List W) (S : Store) : Out Src := match ws with
  | [w] => optS (rgO1 w) S
  | [w, u] => optS (rgO w u) S
  | _ => .bad
theorem ji_en (ok : XOk c G fr X) {x : Str} (hb : isBi G fr x "enumerate" = true) {tg e : Expr} {p pos : Pos} (ht : isTupE tg = true) (hp : plainArgs [e] = true) {f : Env → Store → Out (List W)} (ha : PA X [e] (tA c Xw f)) :
    PI X tg (.Call (.Name x p) [e] [] pos) (tI c Xw fun σ S => (f σ S).bind enS) := by
  obtain ⟨es, k, tp, rfl⟩ := tup_of ht
  obtain ⟨rfl, g1, g2, g3⟩ := isBi_ok ok hb (by decide)
  refine ⟨fun pins s τ H Q I h => (pi_en g1 g3 ha (starEach_plain (plain_cons hp).1)).run pins s τ H Q I ?_⟩
  obtain ⟨σ, S, F, ρ, a, q⟩ := h
  refine ⟨σ, S, F, ρ, a, (QO.bind q).imp fun ws S1 F1 H1 ρ1 st sr q0 vs wr => ?_⟩
  have q1 := q0 st
  unfold enS at q1
  split at q1
  · rename_i w
    obtain ⟨v, rfl, r⟩ : ∃ v, vs = [v] ∧ WRep c F1 ρ1 v w := by
      cases wr with
      | cons h t =>
        cases t
        exact ⟨_, rfl, h⟩
    cases r with
    | ref hn =>
      rename_i n addr
      have e2 : enO (.ref n) S1 = match S1[n]? with
        | some (.lst _) => some (.cell n true)
        | _ => none := rfl
      rw [e2] at q1
      split at q1
      · rename_i ws hS
        obtain ⟨us, hA, r⟩ := sr.cell n _ _ hS hn
        exact ⟨.l _, us, rfl, SqL.of hA, QO.now sr q1 _ F1 (Same.refl _) st sr (src_encell hn)⟩
      · exact q1.elim
    | d r =>
      rename_i d
      have e2 : enO (.d d) S1 = (seqD d).map fun xs => .fix (enumFrom 0 xs) := rfl
      rw [e2] at q1
      cases hx : seqD d with
      | none =>
        rw [hx] at q1
        exact q1.elim
      | some xs =>
        rw [hx] at q1
        obtain ⟨κ, us, rfl, hk, rs⟩ := kd_of ok.K r hx
        exact ⟨κ, us, rfl, hk F1 H1 (Same.refl _) sr.sub, QO.now sr q1 _ F1 (Same.refl _) st sr (src_en hk rs)⟩
  · exact q1.elim
theorem ji_zp (ok : XOk c G fr X) {x : Str} (hb : isBi G fr x "zip" = true) {tg e e2 : Expr} {p pos : Pos} (ht : isTupE tg = true) (hp : plainArgs [e, e2] = true) {f : Env → Store → Out (List W)} (ha : PA X [e, e2] (tA c Xw f)) :
    PI X tg (.Call (.Name x p) [e, e2] [] pos) (tI c Xw fun σ S => (f σ S).bind zpS) := by
  obtain ⟨es, k, tp, rfl⟩ := tup_of ht
  obtain ⟨rfl, g1, g2, g3⟩ := isBi_ok ok hb (by decide)
  obtain ⟨p1, p2⟩ := plain_cons hp
  refine ⟨fun pins s τ H Q I h => (pi_zp g1 g3 ha (starEach_plain p1) (backTo_plain p2)).run pins s τ H Q I ?_⟩
  obtain ⟨σ, S, F, ρ, a, q⟩ := h
  refine ⟨σ, S, F, ρ, a, (QO.bind q).imp fun ws S1 F1 H1 ρ1 st sr q0 vs wr => ?_⟩
  have q1 := q0 st
  unfold zpS at q1
  split at q1
  · rename_i w w'
    obtain ⟨v, v', rfl, r, r'⟩ : ∃ v v', vs = [v, v'] ∧ WRep c F1 ρ1 v w ∧ WRep c F1 ρ1 v' w' := by
      cases wr with
      | cons h t =>
        cases t with
        | cons h' t =>
          cases t
          exact ⟨_, _, rfl, h, h'⟩
    cases r with
    | ref hn => exact q1.elim
    | d r =>
      cases r' with
      | ref hn => exact q1.elim
      | d r' =>
        rename_i d d'
        have e2 : zpO (.d d) (.d d') = match seqD d, seqD d' with
          | some xs, some ys => some (.fix (zipD xs ys))
          | _, _ => none := rfl
        rw [e2] at q1
        split at q1
        · rename_i xs ys hx hy
          obtain ⟨κ, us, rfl, hk, rs⟩ := kd_of ok.K r hx
          obtain ⟨μ, us', rfl, hk', rs'⟩ := kd_of ok.K r' hy
          exact ⟨κ, μ, us, us', rfl, hk F1 H1 (Same.refl _) sr.sub, hk' F1 H1 (Same.refl _) sr.sub, QO.now sr q1 _ F1 (Same.refl _) st sr (src_zp hk hk' rs rs')⟩
        · exact q1.elim
  · exact q1.elim
theorem bRg_le {i : Int} (h : bRg i = true) : -(2 ^ 62) ≤ i ∧ i < 2 ^ 62 := by
  unfold bRg at h
  simpa using h
theorem ji_rg1 (ok : XOk c G fr X) {x : Str} (hb : isBi G fr x "range" = true) {tg e : Expr} {p pos : Pos} (hp : plainArgs [e] = true) {f : Env → Store → Out (List W)} (ha : PA X [e] (tA c Xw f)) :
    PI X tg (.Call (.Name x p) [e] [] pos) (tI c Xw fun σ S => (f σ S).bind fun ws S1 => match ws with
      | [w] => optS (rgO1 w) S1
      | _ => .bad) := by
  obtain ⟨rfl, g1, g2, g3⟩ := isBi_ok ok hb (by decide)
  refine ⟨fun pins s τ H Q I h => (pi_range1 g1 g3 ha (starEach_plain (plain_cons hp).1)).run pins s τ H Q I ?_⟩
  obtain ⟨σ, S, F, ρ, a, q⟩ := h
  refine ⟨σ, S, F, ρ, a, (QO.bind q).imp fun ws S1 F1 H1 ρ1 st sr q0 vs wr => ?_⟩
  have q1 := q0 st
  split at q1
  · rename_i w
    obtain ⟨v, rfl, r⟩ : ∃ v, vs = [v] ∧ WRep c F1 ρ1 v w := by
      cases wr with
      | cons h t =>
        cases t
        exact ⟨_, rfl, h⟩
    unfold rgO1 at q1
    split at q1
    · rename_i j
      split at q1
      · rename_i hb
        obtain ⟨b1, b2⟩ := bRg_le hb
        cases r with
        | d r =>
          cases r
          have h1 := QO.now sr q1 (Itr 0 (j - 0).toNat) F1 (Same.refl _) st sr src_rg
          rw [Int.sub_zero] at h1
          exact ⟨j, rfl, b1, b2, h1⟩
      · exact q1.elim
    · exact q1.elim
  · exact q1.elim
theorem ji_rg2 (ok : XOk c G fr X) {x : Str} (hb : isBi G fr x "range" = true) {tg e e2 : Expr} {p pos : Pos} (hp : plainArgs [e, e2] = true) {f : Env → Store → Out (List W)} (ha : PA X [e, e2] (tA c Xw f)) :
    PI X tg (.Call (.Name x p) [e, e2] [] pos) (tI c Xw fun σ S => (f σ S).bind fun ws S1 => match ws with
      | [w, u] => optS (rgO w u) S1
      | _ => .bad) := by
  obtain ⟨rfl, g1, g2, g3⟩ := isBi_ok ok hb (by decide)
  obtain ⟨p1, p2⟩ := plain_cons hp
  have s2 := starEach_plain (env := X.env) (es := []) (plain_cons p2).1
  have s1 := starEach_plain (env := X.env) (es := [e2]) p1
  refine ⟨fun pins s τ H Q I h => (pi_range2 g1 g3 ha (by rw [s1, s2]; rfl) (by rw [s2]; rfl)).run pins s τ H Q I ?_⟩
  obtain ⟨σ, S, F, ρ, a, q⟩ := h
  refine ⟨σ, S, F, ρ, a, (QO.bind q).imp fun ws S1 F1 H1 ρ1 st sr q0 vs wr => ?_⟩
  have q1 := q0 st
  split at q1
  · rename_i w w'
    obtain ⟨v, v', rfl, r, r'⟩ : ∃ v v', vs = [v, v'] ∧ WRep c F1 ρ1 v w ∧ WRep c F1 ρ1 v' w' := by
      cases wr with
      | cons h t =>
        cases t with
        | cons h' t =>
          cases t
          exact ⟨_, _, rfl, h, h'⟩
    unfold rgO at q1
    split at q1
    · rename_i i j
      split at q1
      · rename_i hb
        rw [Bool.and_eq_true] at hb
        obtain ⟨b1, b2⟩ := bRg_le hb.1
        obtain ⟨b3, b4⟩ := bRg_le hb.2
        cases r with
        | d r =>
          cases r
          cases r' with
          | d r' =>
            cases r'
            exact ⟨i, j, rfl, ⟨b1, b2, b3, b4⟩, QO.now sr q1 _ F1 (Same.refl _) st sr src_rg⟩
      · exact q1.elim
    · exact q1.elim
  · exact q1.elim
end
end Ev
set_option linter.all false
set_option maxHeartbeats 2000000
namespace Ev
open PySem L2

/-! ## for, while -/
def forS (g : D → Env → Option Env) (B : Env → Store → SOut) (cur : Store → Nat → Option (Option D)) : Nat → Nat → Env → Store → SOut
  | 0, _, _, _ => .bad
  | n + 1, i, σ, S => match cur S i with
    | none => .bad
    | some none => .nx σ S
    | some (some d) => match g d σ with
      | none => .bad
      | some σ1 => match B σ1 S with
        | .nx σ2 S2 => forS g B cur n (i + 1) σ2 S2
        | .ct σ2 S2 => forS g B cur n (i + 1) σ2 S2
        | .bk σ2 S2 => .nx σ2 S2
        | o => o
def whileS (T : Env → Store → Out Bool) (B : Env → Store → SOut) : Nat → Env → Store → SOut
  | 0, _, _ => .bad
  | n + 1, σ, S => liftS (T σ S) σ fun b S1 => if b = true then match B σ S1 with
      | .nx σ2 S2 => whileS T B n σ2 S2
      | .ct σ2 S2 => whileS T B n σ2 S2
      | .bk σ2 S2 => .nx σ2 S2
      | o => o
    else .nx σ S1
section
variable {c : Cs} {G : Gm} {fr : Fr} {X : Cx} {Wx : WX} {R : Rec}
theorem noSet_fold {e : Expr} {env : PySem.Env} (h : noSet e = true) : ∀ x, foldedSetIterable e env x = pure x := by
  intro x
  cases e <;> first | rfl | cases h
theorem js_for (ok : XOk c G fr X) (po : PassesOwn (model X.prog X.w) X.A X.env X.xe) {tg it : Expr} {body : List Stmt} {pos : Pos} {fi : Env → Store → Out Src} {fb : Env → Store → SOut} (hi : PI X tg it (tI c (xwOf c Wx) fi)) (ht : tgOk tg = true) (hb : PSs X body (tS c Wx fb)) (hn : noSet it = true) :
    PS X (.For tg it body [] pos) (tS c Wx fun σ S => liftS (fi σ S) σ fun src S1 => forS (asgD fr tg) fb (curOf src) (turnsOf src) 0 σ S1) := by
  refine js_imp (ps_for po ok.calm hi (jg ok tg ht) hb (noSet_fold hn)) fun D τ H h => ?_
  obtain ⟨σ, S, F, ρ, a, q⟩ := h
  refine ⟨σ, S, F, ρ, a, (QS.lift a q).imp fun src S1 F1 H1 ρ1 st sr q0 J F2 s2 st2 sr2 so => ?_⟩
  refine ⟨fun i m τ' H' => ∃ σ' S' F' ρ', Same F2 F' ∧ ρ1 <+: ρ' ∧ At c σ' S' τ' F' H' ρ' ∧ QS c Wx F' ρ' H' D (forS (asgD fr tg) fb (curOf src) m i σ' S'), ⟨turnsOf src, σ, S1, F2, ρ1, Same.refl _, List.prefix_refl _, ⟨a.env.mono st2.frz st2.pre, sr2⟩, q0 st2⟩, ?_⟩
  rintro i m τ' H' ⟨σ', S', F', ρ', sF, pr, a', q'⟩
  obtain ⟨c1, c2⟩ := so F' H' ρ' S' i sF pr a'.st
  cases m with
  | zero => exact q'.elim
  | succ m =>
    unfold forS at q'
    split at q'
    · exact q'.elim
    · rename_i e
      exact .inl ⟨c1 e, QS.now a' q'⟩
    · rename_i d e
      obtain ⟨k1, k2⟩ := c2 d e
      split at q'
      · exact q'.elim
      · rename_i σ1 hg
        refine .inr ⟨k1, fun τ2 H2 => ∃ σ2 S2 F3 ρ3, Same F2 F3 ∧ ρ1 <+: ρ3 ∧ At c σ2 S2 τ2 F3 H2 ρ3 ∧ QS c Wx F3 ρ3 H2 D (forS (asgD fr tg) fb (curOf src) m (i + 1) σ2 S2), fun τ2 H2 w => ⟨m, Nat.lt_succ_self _, w⟩, fun x H2 y => ?_⟩
        obtain ⟨F3, st3, sr3, rx⟩ := k2 x H2 y
        refine ⟨σ', S', F3, ρ', d, σ1, a'.step st3 sr3, rx, hg, fun τ3 a3 _ => ⟨σ1, S', F3, ρ', a3, ?_⟩⟩
        have q2 := QS.later st3 q'
        have ext : ∀ {F4 H4 : Hp} {ρ4 : List Addr}, Step F3 ρ' H2 F4 ρ4 H4 → Same F2 F4 ∧ ρ1 <+: ρ4 := fun s4 => ⟨(sF.trans st3.frz).trans s4.frz, pr.trans s4.pre⟩
        cases ho : fb σ1 S' with
        | nx σ2 S2 =>
          rw [ho] at q2
          exact fun τ4 F4 H4 ρ4 s4 a4 => ⟨σ2, S2, F4, ρ4, (ext s4).1, (ext s4).2, a4, QS.later s4 q2⟩
        | ct σ2 S2 =>
          rw [ho] at q2
          exact fun τ4 F4 H4 ρ4 s4 a4 => ⟨σ2, S2, F4, ρ4, (ext s4).1, (ext s4).2, a4, QS.later s4 q2⟩
        | bk σ2 S2 =>
          rw [ho] at q2
          exact q2
        | rt rv S2 =>
          rw [ho] at q2
          exact q2
        | exc n fs σ2 S2 =>
          rw [ho] at q2
          exact q2
        | bad =>
          rw [ho] at q2
          exact q2
theorem js_while (ok : XOk c G fr X) (po : PassesOwn (model X.prog X.w) X.A X.env X.xe) {t : Expr} {body : List Stmt} {pos : Pos} {ft : Env → Store → Out Bool} {fb : Env → Store → SOut} (ht : PT X t (tB c (xwOf c Wx) ft)) (hb : PSs X body (tS c Wx fb)) (fuel : Nat) :
    PS X (.While t body [] pos) (tS c Wx fun σ S => whileS ft fb fuel σ S) := by
  refine js_imp (ps_while po ht hb) fun D τ H h => ?_
  obtain ⟨σ, S, F, ρ, a, q⟩ := h
  refine ⟨fun m τ' H' => ∃ σ' S' F' ρ', At c σ' S' τ' F' H' ρ' ∧ QS c Wx F' ρ' H' D (whileS ft fb m σ' S'), ⟨fuel, σ, S, F, ρ, a, q⟩, ?_⟩
  rintro m τ' H' ⟨σ', S', F', ρ', a', q'⟩
  cases m with
  | zero => exact q'.elim
  | succ m =>
    unfold whileS at q'
    refine ⟨σ', S', F', ρ', a', (QS.lift a' q').imp fun b S1 F1 H1 ρ1 st sr q0 => ?_⟩
    have q1 := q0 st
    cases b with
    | false =>
      rw [if_neg Bool.false_ne_true] at q1
      exact iteF (QS.now (a'.step st sr) q1)
    | true =>
      rw [if_pos rfl] at q1
      refine iteT ⟨fun τ2 H2 => ∃ σ2 S2 F3 ρ3, At c σ2 S2 τ2 F3 H2 ρ3 ∧ QS c Wx F3 ρ3 H2 D (whileS ft fb m σ2 S2), fun τ2 H2 w => ⟨m, Nat.lt_succ_self _, w⟩, σ', S1, F1, ρ1, a'.step st sr, ?_⟩
      cases ho : fb σ' S1 with
      | nx σ2 S2 =>
        rw [ho] at q1
        exact fun τ4 F4 H4 ρ4 s4 a4 => ⟨σ2, S2, F4, ρ4, a4, QS.later s4 q1⟩
      | ct σ2 S2 =>
        rw [ho] at q1
        exact fun τ4 F4 H4 ρ4 s4 a4 => ⟨σ2, S2, F4, ρ4, a4, QS.later s4 q1⟩
      | bk σ2 S2 =>
        rw [ho] at q1
        exact q1
      | rt rv S2 =>
        rw [ho] at q1
        exact q1
      | exc n fs σ2 S2 =>
        rw [ho] at q1
        exact q1
      | bad =>
        rw [ho] at q1
        exact q1
end
end Ev
set_option linter.all false
set_option maxHeartbeats 2000000
namespace Ev
open PySem L2

section
variable {c : Cs} {G : Gm} {fr : Fr} {X : Cx} {Wx : WX} {R : Rec}

/-! ## a, b = a value -/
def isTupX : Expr → Bool
  | .Tuple _ _ _ => true | _ => false
theorem noSwap {ts : List Expr} {e : Expr} {env : PySem.Env} (h : isTupX e = false) : swappedStores ts e env = pure none := by
  unfold swappedStores
  cases e with
  | Tuple _ _ _ => cases h
  | _ =>
    cases ts with
    | nil => rfl
    | cons t r =>
      cases r with
      | nil => cases t <;> rfl
      | cons _ _ => cases t <;> rfl
def asgS (fr : Fr) (tg : Expr) (rv : RV) (σ : Env) (S : Store) : SOut := match rv.toW with
  | .d d => match asgD fr tg d σ with
    | some σ' => .nx σ' S
    | none => .bad
  | _ => .bad
theorem js_asgT (ok : XOk c G fr X) {ts : List Expr} {k : Nat} {tp pos : Pos} {e : Expr} {f : Env → Store → Out RV} (ht : tgOk (.Tuple ts k tp) = true) (hw : swappedStores [.Tuple ts k tp] e X.env = pure none) (hs : swapsWith e (some (.Tuple ts k tp)) pos.line X.env = pure false) (he : PE X e (tE c (xwOf c Wx) f)) :
    PS X (.Assign [.Tuple ts k tp] e pos) (tS c Wx fun σ S => liftS (f σ S) σ fun rv S1 => asgS fr (.Tuple ts k tp) rv σ S1) := by
  refine js_imp (ps_asg he (jg ok _ ht) hs hw rfl) fun D τ H h => ?_
  obtain ⟨σ, S, F, ρ, a, q⟩ := h
  refine tE_mk a ((QS.lift a q).imp fun rv S1 F1 H1 ρ1 st sr q0 v vr => ?_)
  obtain ⟨F2, s2, st2, sr2, wr⟩ := toW_rep sr st vr
  have q1 := q0 st2
  unfold asgS at q1
  cases hw : rv.toW with
  | d d =>
    rw [hw] at q1 wr
    dsimp only at q1
    cases wr with
    | d r =>
      cases hg : asgD fr (.Tuple ts k tp) d σ with
      | none =>
        rw [hg] at q1
        exact q1.elim
      | some σ' =>
        rw [hg] at q1
        exact ⟨σ, S1, F2, ρ1, d, σ', ⟨a.env.mono st2.frz st2.pre, sr2⟩, r, hg, fun τ' a' _ => QS.now a' q1⟩
  | ref n =>
    rw [hw] at q1
    exact q1.elim
  | ex n fs =>
    rw [hw] at q1
    exact q1.elim

/-! ## a, b = x, y -/
def isTupS (e : Expr) : Bool := match e with
  | .Tuple vs _ _ => !vs.any isStar && !vs.all (foldedForSure 8) && !vs.all (constantsAlone 8)
  | _ => false
def loc1 (fr : Fr) (x : Str) : Bool := decide (fr.sc.names.lookup x = some .local)
theorem kind_of (ok : XOk c G fr X) {x : Str} (h : loc1 fr x = true) : X.env.kindOf x = some .local := by
  unfold loc1 at h
  have h := of_decide_eq_true h
  rw [← ok.sc] at h
  exact h
theorem swap2 (ok : XOk c G fr X) (hk : X.env.scope.kind = .function) {x y : Str} {px py pt pt2 : Pos} {k k2 : Nat} {a b : Expr} (h1 : loc1 fr x = true) (h2 : loc1 fr y = true) (h3 : (py.line == px.line) = true) (h4 : x ≠ y) (h5 : isTupS (.Tuple [a, b] k2 pt2) = true) :
    swappedStores [.Tuple [.Name x px, .Name y py] k pt] (.Tuple [a, b] k2 pt2) X.env = pure (some [x, y]) := by
  unfold isTupS at h5
  simp only [Bool.and_eq_true, Bool.not_eq_true'] at h5
  obtain ⟨⟨e1, e2⟩, e3⟩ := h5
  have hb : X.env.blockKind = .function := by
    unfold Env.blockKind
    rw [hk]
    rfl
  have k1 := kind_of ok h1
  have k2' := kind_of ok h2
  have h4' : (y == x) = false := by simpa using Ne.symm h4
  have h4'' : (x == y) = false := by simpa using h4
  unfold swappedStores
  dsimp only
  rw [hb, e2, e3]
  split
  · rename_i h
    simp at h
  · split
    · rename_i h
      exfalso
      rw [List.any_eq_true] at h
      obtain ⟨e, he, h⟩ := h
      rw [List.any_eq_false] at e1
      have e1 := e1 e he
      cases e <;> first | exact e1 rfl | cases h
    · have h3' : py.line = px.line := eq_of_beq h3
      simp [List.filterMap_cons, k1, k2', h3', Expr.pos, List.eraseDups, List.eraseDupsBy, List.eraseDupsBy.loop, h4', h4'']
theorem swap3 (ok : XOk c G fr X) (hk : X.env.scope.kind = .function) {x y z : Str} {px py pz pt pt2 : Pos} {k k2 : Nat} {a b d : Expr} (h1 : loc1 fr x = true) (h2 : loc1 fr y = true) (hz : loc1 fr z = true) (h3 : (py.line == px.line) = true) (h3' : (pz.line == px.line) = true) (h4 : x ≠ y) (h5 : x ≠ z) (h6 : y ≠ z) (h7 : isTupS (.Tuple [a, b, d] k2 pt2) = true) :
    swappedStores [.Tuple [.Name x px, .Name y py, .Name z pz] k pt] (.Tuple [a, b, d] k2 pt2) X.env = pure (some [x, y, z]) := by
  unfold isTupS at h7
  simp only [Bool.and_eq_true, Bool.not_eq_true'] at h7
  obtain ⟨⟨e1, e2⟩, e3⟩ := h7
  have hb : X.env.blockKind = .function := by
    unfold Env.blockKind
    rw [hk]
    rfl
  have k1 := kind_of ok h1
  have k2' := kind_of ok h2
  have k3' := kind_of ok hz
  have n1 : (y == x) = false := by simpa using Ne.symm h4
  have n2 : (x == y) = false := by simpa using h4
  have n3 : (x == z) = false := by simpa using h5
  have n4 : (z == x) = false := by simpa using Ne.symm h5
  have n5 : (y == z) = false := by simpa using h6
  have n6 : (z == y) = false := by simpa using Ne.symm h6
  unfold swappedStores
  dsimp only
  rw [hb, e2, e3]
  split
  · rename_i h
    simp at h
  · split
    · rename_i h
      exfalso
      rw [List.any_eq_true] at h
      obtain ⟨e, he, h⟩ := h
      rw [List.any_eq_false] at e1
      have e1 := e1 e he
      cases e <;> first | exact e1 rfl | cases h
    · have h3'' : py.line = px.line := eq_of_beq h3
      have h3x : pz.line = px.line := eq_of_beq h3'
      simp [List.filterMap_cons, k1, k2', k3', h3'', h3x, Expr.pos, List.eraseDups, List.eraseDupsBy, List.eraseDupsBy.loop, n1, n2, n3, n4, n5, n6]
def par2 (fr : Fr) (x y : Str) (ws : List W) (σ : Env) (S : Store) : SOut := match idx fr.N x, idx fr.N y, ws with
  | some i, some j, [v, w] => .nx ((σ.set i (some v)).set j (some w)) S
  | _, _, _ => .bad
def par3 (fr : Fr) (x y z : Str) (ws : List W) (σ : Env) (S : Store) : SOut := match idx fr.N x, idx fr.N y, idx fr.N z, ws with
  | some i, some j, some k, [v, w, u] => .nx (((σ.set i (some v)).set j (some w)).set k (some u)) S
  | _, _, _, _ => .bad
def flg (fr : Fr) (xs : List Str) : List Bool := xs.map fr.cells.contains
theorem plain_all : ∀ {es : List Expr}, es.any isStar = false → plainArgs es = true
  | [], _ => rfl
  | e :: es, h => by
    rw [List.any_cons, Bool.or_eq_false_iff] at h
    have r := plain_all h.2
    unfold plainArgs at r ⊢
    rw [List.all_cons, h.1, r]
    rfl
theorem tupS_plain {es : List Expr} {k : Nat} {p : Pos} (h : isTupS (.Tuple es k p) = true) : plainArgs es = true := by
  unfold isTupS at h
  simp only [Bool.and_eq_true, Bool.not_eq_true'] at h
  exact plain_all h.1.1
theorem js_stop {st : Stmt} : PS X st (tS c Wx fun _ _ => .bad) := js_bad
theorem idx_ne {x y : Str} {i j : Nat} (ok : XOk c G fr X) (h1 : idx fr.N x = some i) (h2 : idx fr.N y = some j) (h : x ≠ y) : i ≠ j := fun e => by
  have a := idx_get h1
  have b := idx_get h2
  rw [e, b] at a
  exact h (Option.some.inj a).symm
theorem wreps2 {F : Hp} {ρ : List Addr} {vs : List V} {w w' : W} (r : WReps c F ρ vs [w, w']) : ∃ v v', vs = [v, v'] ∧ WRep c F ρ v w ∧ WRep c F ρ v' w' := by
  cases r with
  | cons h t =>
    cases t with
    | cons h' t =>
      cases t
      exact ⟨_, _, rfl, h, h'⟩
theorem wreps3 {F : Hp} {ρ : List Addr} {vs : List V} {w w' w'' : W} (r : WReps c F ρ vs [w, w', w'']) : ∃ v v' v'', vs = [v, v', v''] ∧ WRep c F ρ v w ∧ WRep c F ρ v' w' ∧ WRep c F ρ v'' w'' := by
  cases r with
  | cons h t =>
    obtain ⟨v', v'', rfl, h', h''⟩ := wreps2 t
    exact ⟨_, _, _, rfl, h, h', h''⟩
theorem js_par2 (ok : XOk c G fr X) (hE : ∀ e, PE X e (tE c (xwOf c Wx) fun σ S => R.E fr σ e S)) {x y : Str} {px py pt pt2 pos : Pos} {k k2 : Nat} {a b : Expr} (h1 : loc1 fr x = true) (h2 : loc1 fr y = true) (h3 : (py.line == px.line) = true) (h4 : x ≠ y) (h5 : isTupS (.Tuple [a, b] k2 pt2) = true)
    {i j : Nat} (hi : idx fr.N x = some i) (hj : idx fr.N y = some j) :
    PS X (.Assign [.Tuple [.Name x px, .Name y py] k pt] (.Tuple [a, b] k2 pt2) pos) (tS c Wx fun σ S => liftS (evArgsK R fr σ (flg fr [x, y]) [a, b] S) σ fun ws S1 => par2 fr x y ws σ S1) := by
  refine ⟨fun pins s τ H D I h => ?_⟩
  have hl1 : X.env.scope.names.lookup x = some .local := kind_of ok h1
  have hl2 : X.env.scope.names.lookup y = some .local := kind_of ok h2
  refine (ps_par (i := i) (j := j) ok.calm ok.nd (by rw [ok.N]; exact idx_get hi) (by rw [ok.N]; exact idx_get hj) (idx_ne ok hi hj h4) hl1 hl2 (ja_argsK hE (flg fr [x, y]) [a, b] (tupS_plain h5)) (swap2 ok I.ok.kind h1 h2 h3 h4 h5)).run pins s τ H D I ?_
  obtain ⟨σ, S, F, ρ, at', q⟩ := h
  refine ⟨σ, S, F, ρ, at', (QS.lift at' q).imp fun ws S1 F1 H1 ρ1 st sr q0 vs wr => ?_⟩
  have q1 := q0 st
  unfold par2 at q1
  rw [hi, hj] at q1
  split at q1
  · rename_i e1 e2
    cases e1
    cases e2
    obtain ⟨v, v', rfl, r, r'⟩ := wreps2 wr
    exact ⟨v, v', rfl, QS.now ⟨((at'.env.mono st.frz st.pre).set r _).set r' _, sr⟩ q1⟩
  · exact q1.elim
theorem js_par3 (ok : XOk c G fr X) (hE : ∀ e, PE X e (tE c (xwOf c Wx) fun σ S => R.E fr σ e S)) {x y z : Str} {px py pz pt pt2 pos : Pos} {k k2 : Nat} {a b d : Expr} (h1 : loc1 fr x = true) (h2 : loc1 fr y = true) (hz : loc1 fr z = true) (h3 : (py.line == px.line) = true) (h3' : (pz.line == px.line) = true) (h4 : x ≠ y) (h6 : x ≠ z) (h7 : y ≠ z) (h5 : isTupS (.Tuple [a, b, d] k2 pt2) = true)
    {i j l : Nat} (hi : idx fr.N x = some i) (hj : idx fr.N y = some j) (hl : idx fr.N z = some l) :
    PS X (.Assign [.Tuple [.Name x px, .Name y py, .Name z pz] k pt] (.Tuple [a, b, d] k2 pt2) pos) (tS c Wx fun σ S => liftS (evArgsK R fr σ (flg fr [x, y, z]) [a, b, d] S) σ fun ws S1 => par3 fr x y z ws σ S1) := by
  refine ⟨fun pins s τ H D I h => ?_⟩
  have hl1 : X.env.scope.names.lookup x = some .local := kind_of ok h1
  have hl2 : X.env.scope.names.lookup y = some .local := kind_of ok h2
  have hl3 : X.env.scope.names.lookup z = some .local := kind_of ok hz
  refine (ps_par3 (i := i) (j := j) (l := l) ok.calm ok.nd (by rw [ok.N]; exact idx_get hi) (by rw [ok.N]; exact idx_get hj) (by rw [ok.N]; exact idx_get hl) (idx_ne ok hi hj h4) (idx_ne ok hi hl h6) (idx_ne ok hj hl h7) hl1 hl2 hl3 (ja_argsK hE (flg fr [x, y, z]) [a, b, d] (tupS_plain h5)) (swap3 ok I.ok.kind h1 h2 hz h3 h3' h4 h6 h7 h5)).run pins s τ H D I ?_
  obtain ⟨σ, S, F, ρ, at', q⟩ := h
  refine ⟨σ, S, F, ρ, at', (QS.lift at' q).imp fun ws S1 F1 H1 ρ1 st sr q0 vs wr => ?_⟩
  have q1 := q0 st
  unfold par3 at q1
  rw [hi, hj, hl] at q1
  split at q1
  · rename_i e1 e2 e3
    cases e1
    cases e2
    cases e3
    obtain ⟨v, v', v'', rfl, r, r', r''⟩ := wreps3 wr
    exact ⟨v, v', v'', rfl, QS.now ⟨(((at'.env.mono st.frz st.pre).set r _).set r' _).set r'' _, sr⟩ q1⟩
  · exact q1.elim

/-! ## o.f = a value -/
def putW (f : Str) (w : W) : List (Str × W) → List (Str × W)
  | [] => [(f, w)]
  | (g, x) :: r => if g = f then (g, w) :: r else (g, x) :: putW f w r
theorem put_rep {F : Hp} {ρ : List Addr} {f : Str} {v : V} {w : W} (h : WRep c F ρ v w) : ∀ {vs : List (Str × V)} {ws : List (Str × W)}, FsRep c F ρ vs ws → FsRep c F ρ (putF f v vs) (putW f w ws)
  | _, _, .nil => .cons h .nil
  | _, _, .cons (f := g) h' r => by
    unfold putF putW
    by_cases e : g = f
    · rw [if_pos e, if_pos e]
      exact .cons h r
    · rw [if_neg e, if_neg e]
      exact .cons h' (put_rep h r)
theorem fs_len {F : Hp} {ρ : List Addr} : ∀ {vs : List (Str × V)} {ws : List (Str × W)}, FsRep c F ρ vs ws → vs.length = ws.length
  | _, _, .nil => rfl
  | _, _, .cons _ r => congrArg (· + 1) (fs_len r)
/-- a cell changes -/
theorem set_cell {F H : Hp} {ρ : List Addr} {S : Store} (sr : SRep c F H ρ S) {n : Nat} {a : Addr} (hn : ρ[n]? = some a) {o : HO} {cc : Cell} (h : ∀ H', H' a = some o → CRep c F H' ρ a cc) (he : ∃ o0, H a = some o0) :
    Step F ρ H F ρ (upd H a o) ∧ SRep c F (upd H a o) ρ (S.set n cc) := by
  have hm : a ∈ ρ := List.mem_of_getElem? hn
  refine ⟨⟨Same.refl _, List.prefix_refl _, fun q o h => .inl h, fun q h => .inl h, fun q o' h1 h2 => ?_, fun q o' h1 => ?_⟩, ⟨fun q o' h1 => ?_, by rw [List.length_set]; exact sr.len, sr.nd, sr.nf, fun m cc' b h1 h2 => ?_⟩⟩
  · rw [upd_ne (show q ≠ a from fun e => h2 (by rw [e]; exact hm))]
    exact h1
  · by_cases e : q = a
    · subst e
      exact ⟨o, upd_same⟩
    · exact ⟨o', by rw [upd_ne e]; exact h1⟩
  · have e : q ≠ a := fun e => by
      rw [e, sr.nf a hm] at h1
      cases h1
    rw [upd_ne e]
    exact sr.sub q o' h1
  · by_cases e : m = n
    · subst e
      rw [hn] at h2
      cases h2
      rw [List.getElem?_set] at h1
      split at h1
      · split at h1
        · cases h1
          exact h _ upd_same
        · cases h1
      · rename_i z
        exact absurd rfl z
    · rw [List.getElem?_set_ne (Ne.symm e)] at h1
      have hb : b ≠ a := fun z => e ((List.getElem?_inj (List.getElem?_eq_some_iff.mp h2).1 sr.nd).mp (by rw [h2, hn, z]))
      exact (sr.cell m cc' b h1 h2).keep (Same.refl _) (List.prefix_refl _) fun o h => by rw [upd_ne hb]; exact h
def setF (G : Gm) (f : Str) (w : W) (o : RV) (S : Store) : Option Store := match o with
  | .w (.ref n) => match S[n]? with
    | some (.ins k fs) => match G.clss[k]? with
      | some ci => if f ∈ ci.flds then if fs.length < 999 then some (S.set n (.ins k (putW f w fs))) else none else none
      | none => none
    | _ => none
  | _ => none
theorem js_fld (ok : XOk c G fr X) {fa : Nat → Addr} {fd : Nat → FuncData} {dV : Nat → List Value} (gs : GS c G X.mg fa fd dV) {o e : Expr} {f : Str} {p pos : Pos} {fo fe : Env → Store → Out RV} (ho : PE X o (tE c (xwOf c Wx) fo)) (he : PE X e (tE c (xwOf c Wx) fe)) (hs : swapsWith e (some (.Attribute o f p)) pos.line X.env = pure false) (b : Bool) :
    PS X (.Assign [.Attribute o f p] e pos) (tS c Wx fun σ S => liftS (fe σ S) σ fun rv S1 => liftS (fo σ (keepW b rv S1).2) σ fun ov S2 => match setF G f (keepW b rv S1).1 ov S2 with
      | some S3 => .nx σ S3
      | none => .bad) := by
  refine js_imp (ps_fld ho he hs) fun D τ H h => ?_
  obtain ⟨σ, S, F, ρ, a, q⟩ := h
  refine tE_mk a ((QS.lift a q).imp fun rv S1 F1 H1 ρ1 st sr q0 v vr => ?_)
  obtain ⟨F2, ρ2, k1, k2, st2, sr2, wr⟩ := keepW_ok st sr vr b
  have a2 : At c σ _ τ F2 H1 ρ2 := ⟨a.env.mono st2.frz st2.pre, sr2⟩
  refine tE_mk a2 ((QS.lift a2 (q0 st2)).imp fun ov S2 F3 H3 ρ3 st3 sr3 q3 u ur => ?_)
  have q4 := q3 st3
  cases hset : setF G f (keepW b rv S1).1 ov S2 with
  | none =>
    rw [hset] at q4
    exact q4.elim
  | some S3 =>
    rw [hset] at q4
    unfold setF at hset
    split at hset
    · rename_i n
      split at hset
      · rename_i k fs hS
        split at hset
        · rename_i ci hci
          split at hset
          · rename_i hf
            split at hset
            · rename_i hl
              cases hset
              cases ur with
              | ref hn =>
                obtain ⟨dx, vs, hA, r⟩ := sr3.cell n _ _ hS hn
                have wr3 := wr.mono st3.frz st3.pre
                obtain ⟨s4, s5⟩ := set_cell sr3 hn (o := .ins (c.cl k) dx (putF f v vs)) (cc := .ins k (putW f (keepW b rv S1).1 fs)) (fun H' h => ⟨dx, _, h, put_rep wr3 r⟩) ⟨_, hA⟩
                exact ⟨_, _, dx, vs, rfl, hA, by rw [ok.K]; exact gs.cls k ci hci, by rw [ok.K]; exact gs.fld k ci f hci hf, by rw [fs_len r]; omega, QS.now ⟨(a2.env.mono st3.frz st3.pre).mono s4.frz s4.pre, s5⟩ (QS.later s4 q4)⟩
            · cases hset
          · cases hset
        · cases hset
      · cases hset
    · cases hset

/-! ## o[i] = a value -/
def setDct (t : Bool) (ks vs : List D) (k x : D) : Option (List D × List D) := none
def setI (i : RV) (w : W) (o : RV) (S : Store) : Option Store := match o, i with
  | .w (.ref n), .w (.d (.int k)) => match S[n]? with
    | some (.lst ws) => match ixN ws.length k with
      | some j => some (S.set n (.lst (ws.set j w)))
      | none => none
    | _ => none
  | _, _ => none
theorem pre_get {α : Type} {l l' : List α} {n : Nat} {a : α} (p : l <+: l') (h : l[n]? = some a) : l'[n]? = some a := by
  obtain ⟨t, rfl⟩ := p
  rw [List.getElem?_append_left (List.getElem?_eq_some_iff.mp h).1]
  exact h
theorem paired_set {α β : Type} {r : α → β → Prop} {x : α} {y : β} (h : r x y) : ∀ {xs : List α} {ys : List β} (i : Nat), Paired r xs ys → Paired r (xs.set i x) (ys.set i y)
  | _, _, _, .nil => .nil
  | _, _, 0, .cons _ t => .cons h t
  | _, _, i + 1, .cons h' t => .cons h' (paired_set h i t)
theorem sub_plain {o i : Expr} {pos : Pos} {env : PySem.Env} (h : noSlice i = true) : ∀ v, assign (.Subscript o i pos) env v = (do
      let ov ← holding [v] (eval o env)
      let iv ← holding [v, ov] (eval i env)
      standAt pos
      holding [v, ov, iv] (setItem ov iv v)
      release [v, ov, iv] []) := by
  intro v
  cases i <;> first | rfl | cases h
theorem js_sub (ok : XOk c G fr X) {o i e : Expr} {p pos : Pos} {fo fi fe : Env → Store → Out RV} (ho : PE X o (tE c (xwOf c Wx) fo)) (hi : PE X i (tE c (xwOf c Wx) fi)) (he : PE X e (tE c (xwOf c Wx) fe)) (hn : noSlice i = true) (hs : swapsWith e (some (.Subscript o i p)) pos.line X.env = pure false) (hw : swappedStores [.Subscript o i p] e X.env = pure none) :
    PS X (.Assign [.Subscript o i p] e pos) (tS c Wx fun σ S => liftS (fe σ S) σ fun rv S1 => liftS (fo σ S1) σ fun ov S2 => liftS (fi σ S2) σ fun iv S3 => match setI iv rv.toW ov S3 with
      | some S4 => .nx σ S4
      | none => .bad) := by
  refine js_imp (ps_asg he (pg_sub ho hi set_list (sub_plain hn)) hs hw rfl) fun D τ H h => ?_
  obtain ⟨σ, S, F, ρ, a, q⟩ := h
  refine tE_mk a ((QS.lift a q).imp fun rv S1 F1 H1 ρ1 st sr q0 v vr => ?_)
  obtain ⟨F2, k1, st2, sr2, wr⟩ := toW_rep sr st vr
  have a2 : At c σ S1 τ F2 H1 ρ1 := ⟨a.env.mono st2.frz st2.pre, sr2⟩
  refine tE_mk a2 ((QS.lift a2 (q0 st2)).imp fun ov S2 F3 H3 ρ3 st3 sr3 q3 u ur => ?_)
  have a3 := a2.step st3 sr3
  refine tE_mk a3 ((QS.lift a3 (q3 st3)).imp fun iv S3 F4 H4 ρ4 st4 sr4 q4 x ir => ?_)
  have q5 := q4 st4
  cases hset : setI iv rv.toW ov S3 with
  | none =>
    rw [hset] at q5
    exact q5.elim
  | some S4 =>
    rw [hset] at q5
    unfold setI at hset
    split at hset
    · rename_i n k
      split at hset
      · rename_i ws hS
        split at hset
        · rename_i j hj
          cases hset
          cases ur with
          | ref hn =>
            cases ir with
            | d ir =>
              cases ir
              have hn4 := pre_get st4.pre hn
              obtain ⟨vs, hA, r⟩ := sr4.cell n _ _ hS hn4
              have wr4 := (wr.mono st3.frz st3.pre).mono st4.frz st4.pre
              obtain ⟨s5, s6⟩ := set_cell sr4 hn4 (o := .lst (vs.set j v)) (cc := .lst (ws.set j rv.toW)) (fun H' h => ⟨_, h, paired_set wr4 j r⟩) ⟨_, hA⟩
              exact ⟨_, vs, k, j, rfl, rfl, hA, by rw [Paired.len r]; exact hj, QS.now ⟨(a3.env.mono st4.frz st4.pre).mono s5.frz s5.pre, s6⟩ (QS.later s5 q5)⟩
        · cases hset
      · cases hset
    · cases hset

/-! ## x += e, o.f += e, of numbers -/
def augI (op : Operator) (x y : RV) : Option RV := match op, x, y with
  | .Add, .w (.d (.int i)), .w (.d (.int j)) => some (.d (.int (i + j)))
  | .Sub, .w (.d (.int i)), .w (.d (.int j)) => some (.d (.int (i - j)))
  | _, _, _ => none
theorem aug_int {op : Operator} {x y r : RV} (h : augI op x y = some r) : (op = .Add ∧ ∃ i j, x = .w (.d (.int i)) ∧ y = .w (.d (.int j)) ∧ r = .d (.int (i + j))) ∨ (op = .Sub ∧ ∃ i j, x = .w (.d (.int i)) ∧ y = .w (.d (.int j)) ∧ r = .d (.int (i - j))) := by
  unfold augI at h
  split at h
  · cases h
    exact .inl ⟨rfl, _, _, rfl, rfl, rfl⟩
  · cases h
    exact .inr ⟨rfl, _, _, rfl, rfl, rfl⟩
  · cases h
theorem int_rep {F H H₀ : Hp} {ρ : List Addr} {v : V} {i : Int} (h : VRep c F H ρ H₀ v (.w (.d (.int i)))) : v = .int i := by
  cases h with
  | d r =>
    cases r
    rfl
theorem int_wrep {F : Hp} {ρ : List Addr} {v : V} {i : Int} (h : WRep c F ρ v (.d (.int i))) : v = .int i := by
  cases h with
  | d r =>
    cases r
    rfl
def rAS : V → V → Hp → VK → Prop := fun x y H Q => rAdd x y H Q
theorem js_aug (ok : XOk c G fr X) {x : Str} {i : Nat} (hl : isLoc fr x = true) (hi : idx fr.N x = some i) {op : Operator} (hop : op = .Add ∨ op = .Sub) {e : Expr} {p pos : Pos} {fe : Env → Store → Out RV} (he : PE X e (tE c (xwOf c Wx) fe)) :
    PS X (.AugAssign (.Name x p) op e pos) (tS c Wx fun σ S => match σ[i]? with
      | some (some w) => liftS (fe σ S) σ fun rv S1 => match augI op (.w w) rv with
        | some r => .nx (σ.set i (some r.toW)) S1
        | none => .bad
      | _ => .bad) := by
  have hf : X.fn x = true ∨ X.env.scope.names.lookup x = some .local := by
    rcases ok.fnm x with h | h | h
    · exact .inl h
    · exact .inr h
    · rw [hl] at h
      cases h
  have main : ∀ {ti : TIp}, PIp X op ti → (∀ {x y r : RV} {v u : V} {F H H₀ : Hp} {ρ : List Addr} (Q : VK), augI op x y = some r → VRep c F H ρ H₀ v x → VRep c F H ρ H₀ u y → (∀ z, r = .w (.d (.int z)) → Q (.int z) H) → ti v u H Q) → PS X (.AugAssign (.Name x p) op e pos) (tS c Wx fun σ S => match σ[i]? with
      | some (some w) => liftS (fe σ S) σ fun rv S1 => match augI op (.w w) rv with
        | some r => .nx (σ.set i (some r.toW)) S1
        | none => .bad
      | _ => .bad) := by
    intro ti hp serve
    refine js_imp (ps_aug (i := i) ok.nd (by rw [ok.N]; exact idx_get hi) (isLoc_loc ok hl) he hp hf) fun D τ H h => ?_
    obtain ⟨σ, S, F, ρ, a, q⟩ := h
    dsimp only at q
    split at q
    · rename_i w hw
      obtain ⟨v, e1, r1⟩ := a.env.2 i w hw
      refine ⟨v, e1, tE_mk a ((QS.lift a q).imp fun rv S1 F1 H1 ρ1 st sr q0 u vr => ?_)⟩
      have q1 := q0 st
      cases ha : augI op (.w w) rv with
      | none =>
        rw [ha] at q1
        exact q1.elim
      | some r =>
        rw [ha] at q1
        have r2 : VRep c F1 H1 ρ1 H v (.w w) := r1.mono st.frz st.pre
        refine serve _ ha r2 vr fun z hz => ?_
        subst hz
        exact QS.now ⟨(a.env.mono st.frz st.pre).set (.d (.int z)) i, sr⟩ q1
    · exact q.elim
  rcases hop with rfl | rfl
  · refine main ip_add fun Q h r1 r2 k => ?_
    rcases aug_int h with ⟨_, i, j, rfl, rfl, rfl⟩ | ⟨h, _⟩
    · exact ⟨i, j, int_rep r1, int_rep r2, k _ rfl⟩
    · cases h
  · refine main ip_sub fun Q h r1 r2 k => ?_
    rcases aug_int h with ⟨h, _⟩ | ⟨_, i, j, rfl, rfl, rfl⟩
    · cases h
    · exact ⟨i, j, int_rep r1, int_rep r2, k _ rfl⟩
def fldW (G : Gm) (f : Str) (ov : RV) (S : Store) : Option W := match ov with
  | .w (.ref n) => match S[n]? with
    | some (.ins k fs) => match G.clss[k]? with
      | some ci => if f ∈ ci.flds then fs.lookup f else none
      | none => none
    | _ => none
  | _ => none
def augE (G : Gm) (f : Str) (ov r : RV) (σ : Env) (S0 S : Store) : SOut := if clsOf S ov = clsOf S0 ov then match setF G f r.toW ov S with
    | some S3 => .nx σ S3
    | none => .bad
  else .bad
theorem fs_look {F : Hp} {ρ : List Addr} {f : Str} {w : W} : ∀ {vs : List (Str × V)} {ws : List (Str × W)}, FsRep c F ρ vs ws → ws.lookup f = some w → ∃ v, vs.lookup f = some v ∧ WRep c F ρ v w
  | _, _, .nil, e => by cases e
  | _, _, .cons (f := g) h r, e => by
    rw [List.lookup_cons] at e ⊢
    cases hb : f == g with
    | true =>
      rw [hb] at e
      cases e
      exact ⟨_, rfl, h⟩
    | false =>
      rw [hb] at e
      exact fs_look r e
theorem fld_get (ok : XOk c G fr X) {fa : Nat → Addr} {fd : Nat → FuncData} {dV : Nat → List Value} (gs : GS c G X.mg fa fd dV) {F H H₀ : Hp} {ρ : List Addr} {S : Store} (sr : SRep c F H ρ S) {f : Str} {ov : RV} {u : V} {w : W} (ur : VRep c F H ρ H₀ u ov) (h : fldW G f ov S = some w) :
    ∃ n k fs a dx vs v, ov = .w (.ref n) ∧ S[n]? = some (.ins k fs) ∧ ρ[n]? = some a ∧ u = .ref a ∧ H a = some (.ins (c.cl k) dx vs) ∧ FsRep c F ρ vs fs ∧ vs.lookup f = some v ∧ WRep c F ρ v w ∧ Cls X.K (c.cl k) ∧ NoAttr X.K (c.cl k) f := by
  unfold fldW at h
  split at h
  · rename_i n
    split at h
    · rename_i k fs hS
      split at h
      · rename_i ci hci
        split at h
        · rename_i hf
          cases ur with
          | ref hn =>
            obtain ⟨dx, vs, hA, r⟩ := sr.cell n _ _ hS hn
            obtain ⟨v, e1, e2⟩ := fs_look r h
            exact ⟨n, k, fs, _, dx, vs, v, rfl, hS, hn, rfl, hA, r, e1, e2, by rw [ok.K]; exact gs.cls k ci hci, by rw [ok.K]; exact gs.fld k ci f hci hf⟩
        · cases h
      · cases h
    · cases h
  · cases h
theorem js_augF (ok : XOk c G fr X) {fa : Nat → Addr} {fd : Nat → FuncData} {dV : Nat → List Value} (gs : GS c G X.mg fa fd dV) {op : Operator} (hop : op = .Add ∨ op = .Sub) {o e : Expr} {f : Str} {p pos : Pos} {fo fe : Env → Store → Out RV} (ho : PE X o (tE c (xwOf c Wx) fo)) (he : PE X e (tE c (xwOf c Wx) fe)) :
    PS X (.AugAssign (.Attribute o f p) op e pos) (tS c Wx fun σ S => liftS (fo σ S) σ fun ov S1 => match fldW G f ov S1 with
      | some w => liftS (fe σ S1) σ fun rv S2 => match augI op (.w w) rv with
        | some r => augE G f ov r σ S1 S2
        | none => .bad
      | none => .bad) := by
  have main : ∀ {rd : V → V → Hp → VK → Prop}, InOp X op rd → (∀ {x y r : RV} {v u : V} {F H H₀ F' H' H₀' : Hp} {ρ ρ' : List Addr} (Q : VK), augI op x y = some r → VRep c F H ρ H₀ v x → VRep c F' H' ρ' H₀' u y → (∀ z, r = .w (.d (.int z)) → Q (.int z) H') → rd v u H' Q) → PS X (.AugAssign (.Attribute o f p) op e pos) (tS c Wx fun σ S => liftS (fo σ S) σ fun ov S1 => match fldW G f ov S1 with
      | some w => liftS (fe σ S1) σ fun rv S2 => match augI op (.w w) rv with
        | some r => augE G f ov r σ S1 S2
        | none => .bad
      | none => .bad) := by
    intro rd hp serve
    refine js_imp (ps_fldaug ho he hp) fun D τ H h => ?_
    obtain ⟨σ, S, F, ρ, a, q⟩ := h
    refine tE_mk a ((QS.lift a q).imp fun ov S1 F1 H1 ρ1 st sr q0 u ur => ?_)
    have q1 := q0 st
    have a1 := a.step st sr
    cases hw : fldW G f ov S1 with
    | none =>
      rw [hw] at q1
      exact q1.elim
    | some w =>
      rw [hw] at q1
      dsimp only at q1
      obtain ⟨n, k, fs, b, dx, vs, v, e1, e2, e3, e4, e5, e6, e7, e8, e9, e10⟩ := fld_get ok gs sr ur hw
      refine ⟨b, _, dx, vs, v, e4, e5, e9, e10, e7, tE_mk a1 ((QS.lift a1 q1).imp fun rv S2 F2 H2 ρ2 st2 sr2 q2 y vr => ?_)⟩
      have q3 := q2 st2
      cases ha : augI op (.w w) rv with
      | none =>
        rw [ha] at q3
        exact q3.elim
      | some r =>
        rw [ha] at q3
        refine serve _ ha (show VRep c F1 H1 ρ1 H1 v (.w w) from e8) vr fun z hz => ?_
        subst hz
        dsimp only at q3
        unfold augE at q3
        split at q3
        case isFalse => exact q3.elim
        rename_i hcl
        cases hs : setF G f (RV.toW (.w (.d (.int z)))) ov S2 with
        | none =>
          rw [hs] at q3
          exact q3.elim
        | some S3 =>
          rw [hs] at q3
          rw [e1] at hs
          unfold setF at hs
          dsimp only at hs
          split at hs
          · rename_i k' fs' hS'
            split at hs
            · split at hs
              · split at hs
                · rename_i hl
                  cases hs
                  have hn2 := pre_get st2.pre e3
                  obtain ⟨dx', vs', hA', r'⟩ := sr2.cell n _ _ hS' hn2
                  obtain ⟨s4, s5⟩ := set_cell sr2 hn2 (o := .ins (c.cl k') dx' (putF f (.int z) vs')) (cc := .ins k' (putW f (.d (.int z)) fs')) (fun H' h => ⟨dx', _, h, put_rep (.d (.int z)) r'⟩) ⟨_, hA'⟩
                  subst e1
                  have hk : k' = k := by
                    unfold clsOf at hcl
                    dsimp only at hcl
                    rw [hS', e2] at hcl
                    exact Option.some.inj hcl
                  subst hk
                  subst e4
                  exact ⟨dx', vs', hA', by rw [fs_len r']; omega, QS.now ⟨(a1.env.mono st2.frz st2.pre).mono s4.frz s4.pre, s5⟩ (QS.later s4 q3)⟩
                · cases hs
              · cases hs
            · cases hs
          · cases hs
  rcases hop with rfl | rfl
  · refine main in_add fun Q h r1 r2 k => ?_
    rcases aug_int h with ⟨_, i, j, rfl, rfl, rfl⟩ | ⟨h, _⟩
    · exact ⟨i, j, int_rep r1, int_rep r2, k _ rfl⟩
    · cases h
  · refine main in_sub fun Q h r1 r2 k => ?_
    rcases aug_int h with ⟨h, _⟩ | ⟨_, i, j, rfl, rfl, rfl⟩
    · cases h
    · exact ⟨i, j, int_rep r1, int_rep r2, k _ rfl⟩
end
end Ev
set_option Elab.async false
set_option linter.all false
set_option maxRecDepth 100000
set_option maxHeartbeats 4000000
namespace Ev
open PySem PySem.W PySem.Calls PyProof.Rows PySem.HandSPX

/-! ## an own exception's __init__: super().__init__(text), then at most one field -/
def veS (t : Str) (k : Nat) (a b c d e f : Pos) : Stmt := .Expr (.Call (.Attribute (.Call (.Name "super" a) [] [] b) "__init__" c) [.Constant (.str t) k d] [] e) f
def veF (x : Str) (a b c d : Pos) : Stmt := .Assign [.Attribute (.Name "self" a) x b] (.Name x c) d
def veA (as : List Arg) : Arguments := { posonlyargs := [], args := as, vararg := none, kwonlyargs := [], kw_defaults := [], kwarg := none, defaults := [] }
theorem eval_methB {o : Expr} {m : Str} {apos pos : Pos} {es : List Expr} {env : PySem.Env} (h2 : plainArgs es = true) (h3 : es.length < 30) (h4 : (apos.endLine == pos.line) = true) :
    eval (.Call (.Attribute o m apos) es [] pos) env = (do
      let ov ← attributeBase o m env (eval o env)
      standAt apos.atName
      let (f, first) ← holding [ov] (getMethod ov m (do return (← importBound o env).getD true))
      callWith pos f first (backTo pos (starEach es env)) (backToKw pos (keywordEach [] env))) := by
  have e : eval (.Call (.Attribute o m apos) es [] pos) env = (do
      let ov ← attributeBase o m env (eval o env)
      standAt apos.atName
      methodCall o m apos pos env ov (es.length + 0) (backTo pos (starEach es env)) (backToKw pos (keywordEach [] env))) := rfl
  rw [e]
  have few : methodCallForm (es.length + 0) (backTo pos (starEach es env)) (backToKw pos (keywordEach [] env)) = true := by
    unfold methodCallForm
    rw [starEach_all h2]
    show (true && decide (es.length + 0 + 0 < 30)) = true
    rw [decide_eq_true (by omega)]
    rfl
  have cp : methodCallPos true o env apos pos = pure pos := by
    unfold methodCallPos
    rw [h4]
    rfl
  congr 1
  funext ov
  congr 1
  funext u
  unfold methodCall calleeOf
  rw [few]
  simp only [if_true, cp]
  congr 1

section
variable {prog : Program} {w : World} {A : Around} {E : Value → Shared → Prop} {h : Heap} {g : Array GenState} {d : Drawn} {t : Nat} {os : OsState}
variable {nm q : Str} {C N : Addr} {bs bm : List Value} {hdct : Bool} {sn : List Str} {sub : List Value} {ab : Bool} {col : Option Bool} {dd : Option Addr} {k0 k1 k2 k3 k5 : Option Value}
theorem call_mw {u e t0 : Addr} {rest : List Value} {Q : Value → Shared → Prop}
    (hC : h.get? C = some (excClassObj nm q C N bs bm hdct sn sub ab col dd k0 k1 k2 k3 k5 "ValueError.__new__")) (he : h.get? e = some (HandSPX.excO C t0)) (hu : h.get? u = some (kxs_mw "ValueError.__init__" e)) (hrest : rest.length ≤ sizeLine)
    (hq : ∀ h' t1, (∀ b o, b ≠ e → h.get? b = some o → h'.get? b = some o) → h'.get? e = some (HandSPX.excO C t1) → Q .none ⟨h', g, d, t, os⟩) :
    wpAny (model prog w) A (call (.ref u) rest) Q E ⟨h, g, d, t, os⟩ := by
  refine wpAny_call (codeAny_of_tree ?_)
  show wpAny _ A.in1 (callAny (.ref u) ⟨rest, []⟩) _ _ _
  simp only [callAny]
  refine wpAny_bind (wpAny_load hu ?_)
  simp only [kxs_mw, show (Value.type "method-wrapper" == Value.type "method" || Value.type "method-wrapper" == Value.type "builtin_function_or_method" || Value.type "method-wrapper" == Value.type "method-wrapper") = true by decide, if_true]
  refine W.KFB.if_so (by decide) ?_
  refine wpAny_bind (ESX.check_bound F.excBase_ValueError hC he rfl ?_)
  refine wpAny_bind (wpAny_pure (wpAny_pure ?_))
  refine ⟨Code.quiet_builtin _ (by decide +kernel), codeAny_builtin F.excBase_ValueError.initEntry ?_⟩
  rw [Around.under_plainId F.excBase_ValueError.init.plain _]
  wp_walk
  refine hq _ h.objs.size (fun b o hb ho => ?_) ?_
  · rw [Heap.get?_update_other _ _ (Ne.symm hb)]
    exact Heap.get?_push_of_some _ ho
  · rw [Heap.get?_update_self _ (Heap.get?_push_of_some _ he) rfl]
    rfl
end
/-- what the written part says of an own class C and its __init__ at fI -/
structure VeT (P : Program) (K : Frag) (C fI : Addr) (as : List Arg) (body : List Stmt) (qual : Str) (sc : Scope) (cda cc : Addr) : Prop where
  cls : L2.OexC K C
  iC : findIn K (.ref C) "__init__" = some (some (.ref fI))
  tI : typeIn K (.ref fI) = some (.type "function")
  fn : ∃ oc od doc pm an ct osl, K.lookup fI = some ⟨oc, od, .func (fnX "__init__" qual (veA as) body sc [("__class__", cc)] .none .none doc pm an (.ref cda) ct), osl⟩
  rec_ : codeIn K (.ref cda) qual = true
  code : ∃ ccl cdd vs ccs file tf, K.lookup cda = some ⟨ccl, cdd, .fields vs, ccs⟩ ∧ vs[2]? = some (.str file tf) ∧ ((P.main.file : Str) == file) = true
  cell : ∃ cl cld csl, K.lookup cc = some ⟨cl, cld, .cell (some (.ref C)), csl⟩
  top : (P.main.scope.names.lookup ("super" : Str)).isSome = false
  any : nsIn K cStatics "thirdparty.any" = some none
  mro : mroIn K C (.ref C) = some true
  al : ks_superIn K C C "__init__" = some (some (.builtin "ValueError.__init__"))
  sub : subIn K (.ref C) (.type "ValueError") = some true
  kind : sc.kind = .function
  co : sc.isCoroutine = false
  gen : sc.isGenerator = false
  self : sc.names.lookup ("self" : Str) = some .local
  su : sc.names.lookup ("super" : Str) = some .globalImplicit
  kc : sc.names.lookup ("__class__" : Str) = some .free
  nocell : ∀ x ∈ sc.names, x.2 ≠ .cell
  hd : as.head?.map (·.arg) = some ("self" : Str)
section
variable {P : Program} {w : World} {K : Frag} {mg : Str → Option Value} {C fI cda cc : Addr} {as : List Arg} {body : List Stmt} {qual : Str} {sc : Scope} {A : Around} {E : Value → Shared → Prop} {s : Shared} {L x t0 : Addr} {m : Str → Option Value} {Q : Flow → Shared → Prop}
theorem ve_stmt (T : VeT P K C fI as body qual sc cda cc) (X : K.In s.heap) (hns : s.heap.Ns L m) (hm : m ("self" : Str) = some (.ref x)) (hx : s.heap.get? x = some (excO C t0)) (hG : s.heap.Ns mainGlobals mg) (hms : mg ("super" : Str) = none)
    (hB : ∃ mb, s.heap.Ns builtinsNs mb ∧ ∀ x : Str, x ≠ "__name__" → mb x = bootBuiltins x) {txt : Str} {k : Nat} {a b c d e f : Pos} (hpos : (c.endLine == e.line) = true)
    (hq : ∀ h' tk t1, (∀ b o, b ≠ x → s.heap.get? b = some o → h'.get? b = some o) → h'.get? x = some (excO C t1) → Q .next { s with heap := h', toks := tk }) :
    _root_.PySem.wpAt (model P w) A (.func body (ksEnv qual sc L fI (.ref cda) cc)) (exec (veS txt k a b c d e f) (ksEnv qual sc L fI (.ref cda) cc)) Q E s := by
  obtain ⟨oc, od, doc, pm, an, ct, osl, lk⟩ := T.fn
  obtain ⟨ccl, cdd, vs, ccs, file, tf, lc, hvs, hfile⟩ := T.code
  obtain ⟨cl, cld, csl, lcell⟩ := T.cell
  obtain ⟨nm, q, N, bs, bm, sn, sub, ab, col, dd, k0, k1, k2, k3, k5, hC, hbm⟩ := T.cls.cls
  have hcl : clsIn K C = some { name := nm, bases := bs, mro := .ref C :: bm, ns := N, qualname := q, hasDict := true, slotNames := sn, subclasses := sub, abstract := ab, collection := col, hasDel := false } := by unfold clsIn; rw [hC] <;> rfl
  obtain ⟨ar, har, hpa⟩ : ∃ ar, (veA as).posonlyargs ++ (veA as).args = ar :: as.tail ∧ ar.arg = "self" := by
    have := T.hd
    cases as with
    | nil => cases this
    | cons ar r => exact ⟨ar, rfl, Option.some.inj this⟩
  have I : InstAt s.heap x (excO C t0) C none := ⟨hx, rfl, rfl, trivial⟩
  obtain ⟨mb, hb1, hb2⟩ := hB
  obtain ⟨hp, g, dr, tk, os⟩ := s
  unfold veS
  refine ks_wpAt_Expr_any (e := .Call (.Attribute (.Call (.Name "super" a) [] [] b) "__init__" c) [.Constant (.str txt) k d] [] e) ?_ ?hi
  case hi => unfold interactive; simp [T.kind]
  refine ks_wpAt_MethodCall ?_ (eval_methB (by rfl) (by show 1 < 30; omega) hpos)
  refine ks_wpAt_super_base (env := ksEnv qual sc L fI (.ref cda) cc) (ar := ar) T.su T.kc (by rfl) rfl (X _ _ lk) rfl (by rw [har]; rfl) rfl (X _ _ lc) rfl hvs hfile T.top ?_
  refine ks_loadName_global T.kind T.su (loadGlobal_builtin (env := ksEnv qual sc L fI (.ref cda) cc) hG hms hb1 ((hb2 _ (by decide)).trans (by rfl)) ⟨rfl, ?_⟩)
  refine wpAny_loadName_free T.kind T.kc rfl ⟨_, X _ _ lcell, rfl⟩ ?_
  refine wpAny_loadName_local T.kind (by rw [hpa]; exact T.self) hns (by rw [hpa]; exact hm) ?_
  refine ks_wpAny_isType_cls (X _ _ hC) rfl ⟨rfl, ?_⟩
  refine ks_wpAny_call_super (X _ _ hC) rfl hx rfl (fun c z => by cases z) (looks_mroIn X T.mro) (fun h1 e1 kp1 => ?_)
  have X1 : K.In h1 := X.keeps kp1
  have hal := T.al
  unfold ks_superIn at hal
  rw [hcl] at hal
  refine kxs_getMethod kxs_ValueError e1 (looks_opaque X1 T.any) (l₀ := .ref C :: bm) ?_ rfl X1 hal ((InstAt.type (by exact ⟨kp1 _ _ hx, rfl, rfl, trivial⟩ : InstAt h1 x (excO C t0) C none)).andThen (looks_subIn X1 T.sub)) (ks_ne X I hcl) (by decide) ?_
  · exact fun A Q E s k q => wpAny_bind ((looks_clsIn X1 hcl) A _ E s k (wpAny_pure q))
  have kp2 : ∀ y o, h1.get? y = some o → (h1.push (kxs_mw "ValueError.__init__" x)).get? y = some o := fun y o z => Heap.get?_push_of_some _ z
  have hu : (h1.push (kxs_mw "ValueError.__init__" x)).get? h1.objs.size = some (kxs_mw "ValueError.__init__" x) := Heap.get?_push_at rfl rfl
  show wpAny _ _ (callWith e (.ref h1.objs.size) [] (backTo e (starEach [.Constant (.str txt) k d] (ksEnv qual sc L fI (.ref cda) cc))) []) _ _ _
  refine kxs_callWith (i := "ValueError.__init__") (x := x) rfl (evalArgs_plain ?_)
  refine spliced_more (wpAny_Constant_str ?_)
  refine spliced_none ?_
  refine ⟨hu, ?_⟩
  refine call_mw (X1.keeps kp2 _ _ hC) (kp2 _ _ (kp1 _ _ hx)) hu (by rw [sizeLine_eq]; show 1 ≤ 16777216; omega) fun h3 t1 k3 hx3 => ?_
  exact hq h3 _ t1 (fun b o hb z => k3 b o hb (kp2 _ _ (kp1 _ _ z))) hx3
end
end Ev
set_option Elab.async false
set_option linter.all false
set_option maxRecDepth 100000
set_option maxHeartbeats 4000000
namespace Ev
open PySem PySem.W PySem.Calls PyProof.Rows PySem.HandSPX
theorem kept_butX {K : Frag} {h h' : Heap} {x : Addr} (X : K.In h) (hx : K.lookup x = none) (k : ∀ b o, b ≠ x → h.get? b = some o → h'.get? b = some o) : K.In h' := fun a o e =>
  k a o (fun z => by rw [z, hx] at e; cases e) (X a o e)
/-- what a fresh exception's __init__ finds -/
structure VeS (K : Frag) (mg : Str → Option Value) (s : Shared) : Prop where
  kin : K.In s.heap
  lim : s.heap.NoLimit
  glob : s.heap.Ns mainGlobals mg
  su : mg ("super" : Str) = none
  blt : ∃ mb, s.heap.Ns builtinsNs mb ∧ ∀ x : Str, x ≠ "__name__" → mb x = bootBuiltins x
theorem VeS.keeps {K : Frag} {mg : Str → Option Value} {s s' : Shared} (h : VeS K mg s) (k : ∀ b o, s.heap.get? b = some o → s'.heap.get? b = some o) : VeS K mg s' := by
  obtain ⟨mb, h1, h2⟩ := h.blt
  exact ⟨h.kin.keeps k, h.lim.keeps k, h.glob.keeps k, h.su, mb, h1.keeps k, h2⟩
/-- the two arguments of such an __init__ -/
def VeBind (fld : Str) (pa pb : Pos) : Prop := ∀ (qual : Str) (body : List Stmt) (sc : Scope) (cl : List (Str × Addr)) (doc pm : Value) (an : Option Addr) (cdv ct u v : Value),
  PySem.bindArgs (fnX "__init__" qual (veA [{ arg := "self", annotation := none, pos := pa }, { arg := fld, annotation := none, pos := pb }]) body sc cl .none .none doc pm an cdv ct) ⟨[u, v], []⟩ = pure [(("self" : Str), u), (fld, v)]
example (pa pb : Pos) : VeBind "path" pa pb := fun _ _ _ _ _ _ _ _ _ _ _ => rfl
section
variable {P : Program} {w : World} {K : Frag} {mg : Str → Option Value} {C fI cda cc : Addr} {qual : Str} {sc : Scope} {A : Around} {R : Result → Shared → Prop} {s : Shared} {x t0 : Addr}
theorem ve_init0 {pa : Pos} {txt : Str} {k : Nat} {a b c d e f : Pos} (hpos : (c.endLine == e.line) = true)
    (T : VeT P K C fI [{ arg := "self", annotation := none, pos := pa }] [veS txt k a b c d e f] qual sc cda cc) (V : VeS K mg s) (hx : s.heap.get? x = some (excO C t0)) (hroom : A.depth < recursionLimit)
    (hq : ∀ h' tk t1, (∀ b o, b ≠ x → s.heap.get? b = some o → h'.get? b = some o) → h'.get? x = some (excO C t1) → R (.ok (.ret .none)) { s with heap := h', toks := tk }) :
    codeAny (model P w) A (.call (.ref fI) ⟨[.ref x], []⟩) R s := by
  obtain ⟨oc, od, doc, pm, an, ct, osl, lk⟩ := T.fn
  refine ks_codeAny_call_defAt (binds := [("self", .ref x)]) hroom (V.kin _ _ lk) rfl V.lim (codeRec_of V.kin T.rec_) rfl (BindsTo.of_eq (by first | rfl | with_unfolding_all rfl)) T.nocell ?_ (fun h₀ hns k₀ => ?_) T.co T.gen T.kind
  · intro y hy
    rw [List.mem_singleton] at hy
    rw [hy]
    exact T.self
  have V0 : VeS K mg { s with heap := h₀, toks := s.toks + [(("self" : Str), Value.ref x)].length } := V.keeps k₀
  refine ks_wpAt_execs_cons (ve_stmt (L := s.heap.objs.size) T V0.kin hns (by rfl) (k₀ _ _ hx) V0.glob V0.su V0.blt hpos fun h' tk t1 k1 hx1 => ?_)
  exact wpAt_of_wpAny (wpAny_execs_nil (hq h' tk t1 (fun b o hb z => k1 b o hb (k₀ b o z)) hx1))
theorem ve_init1 {pa pb : Pos} {txt fld : Str} {k : Nat} {a b c d e f a2 b2 c2 d2 : Pos} (hpos : (c.endLine == e.line) = true) {v : Value} (hbd : VeBind fld pa pb) (hfs : (fld == ("self" : Str)) = false) (hfd : (fld == ("__debug__" : Str)) = false) (hfl : sc.names.lookup fld = some .local) (hno : findIn K (.ref C) fld = some none)
    (T : VeT P K C fI [{ arg := "self", annotation := none, pos := pa }, { arg := fld, annotation := none, pos := pb }] [veS txt k a b c d e f, veF fld a2 b2 c2 d2] qual sc cda cc) (V : VeS K mg s) (hx : s.heap.get? x = some (excO C t0)) (hnx : K.lookup x = none) (hroom : A.depth < recursionLimit)
    (hq : ∀ h' tk t1 dx, (∀ b o, b ≠ x → s.heap.get? b = some o → h'.get? b = some o) → s.heap.objs.size ≤ dx → dx ≠ x → h'.get? x = some { cls := .ref C, dict := some dx, data := .fields #[.ref t1, .none, .none, .none, .bool false, .none] } →
      h'.Ns1 dx (fun y => if y = fld then some v else none) → R (.ok (.ret .none)) { s with heap := h', toks := tk }) :
    codeAny (model P w) A (.call (.ref fI) ⟨[.ref x, v], []⟩) R s := by
  obtain ⟨oc, od, doc, pm, an, ct, osl, lk⟩ := T.fn
  obtain ⟨nm, q, N, bs, bm, sn, sub, ab, col, dd, k0, k1, k2, k3, k5, hC, hbm⟩ := T.cls.cls
  have hcl : clsIn K C = some { name := nm, bases := bs, mro := .ref C :: bm, ns := N, qualname := q, hasDict := true, slotNames := sn, subclasses := sub, abstract := ab, collection := col, hasDel := false } := by unfold clsIn; rw [hC] <;> rfl
  refine ks_codeAny_call_defAt (binds := [("self", .ref x), (fld, v)]) hroom (V.kin _ _ lk) rfl V.lim (codeRec_of V.kin T.rec_) rfl (BindsTo.of_eq (hbd _ _ _ _ _ _ _ _ _ _ _)) T.nocell ?_ (fun h₀ hns k₀ => ?_) T.co T.gen T.kind
  · intro y hy
    rcases List.mem_cons.mp hy with hy | hy
    · rw [hy]
      exact T.self
    · rw [List.mem_singleton] at hy
      rw [hy]
      exact hfl
  have V0 : VeS K mg { s with heap := h₀, toks := s.toks + [(("self" : Str), Value.ref x), (fld, v)].length } := V.keeps k₀
  have hself : (("self" : Str) == fld) = false := by rw [Bool.beq_comm]; exact hfs
  have m1 : (fun y => ([(("self" : Str), Value.ref x), (fld, v)].reverse).lookup y) ("self" : Str) = some (.ref x) := by
    show List.lookup ("self" : Str) [(fld, v), (("self" : Str), Value.ref x)] = _
    simp [List.lookup, hself]
  have m2 : (fun y => ([(("self" : Str), Value.ref x), (fld, v)].reverse).lookup y) fld = some v := by
    show List.lookup fld [(fld, v), (("self" : Str), Value.ref x)] = _
    simp [List.lookup]
  have hsL : s.heap.objs.size ≠ x := Nat.ne_of_gt (Heap.lt_size hx)
  refine ks_wpAt_execs_cons (ve_stmt (L := s.heap.objs.size) T V0.kin hns m1 (k₀ _ _ hx) V0.glob V0.su V0.blt hpos fun h' tk t1 k1 hx1 => ?_)
  refine wpAt_of_wpAny ?_
  have hns1 : h'.Ns s.heap.objs.size (fun y => ([(("self" : Str), Value.ref x), (fld, v)].reverse).lookup y) := by
    obtain ⟨o, es, ep, ho, r⟩ := hns
    exact ⟨o, es, ep, k1 _ _ hsL ho, r⟩
  have X1 : K.In h' := kept_butX V0.kin hnx k1
  unfold veF
  refine wpAny_execs_cons (plainObj_wpAny_Assign_Attribute ?_)
  refine wpAny_Name (wpAny_loadName_local T.kind hfl hns1 m2 ?_) hfd
  refine wpAny_Name (wpAny_loadName_local T.kind T.self hns1 m1 ?_) (by decide)
  refine set_plain X1 (ox := excO C t1) (od := none) ⟨hx1, rfl, rfl, trivial⟩ T.cls.sa ?_
  refine exc_osa X1 hx1 hcl (show refsVE (.ref C :: bm) = true from hbm) rfl hno (fun h₃ tk₃ dx k₃ dn dne hx₃ hn₃ => ?_)
  show wpAny _ _ (execs _ _) _ _ _
  have z : s.heap.objs.size < h'.objs.size := hns1.lt
  exact wpAny_execs_nil (hq h₃ tk₃ t1 dx (fun b o hb e => k₃ b o hb (k1 b o hb (k₀ b o e))) (Nat.le_of_lt (Nat.lt_of_lt_of_le z dn)) dne hx₃ hn₃)
end
end Ev
set_option Elab.async false
set_option linter.all false
set_option maxRecDepth 100000
set_option maxHeartbeats 4000000
namespace Ev
open PySem PySem.W PySem.Calls PyProof.Rows PySem.HandSPX
/-- a made exception with no field -/
structure Made0 (h h' : Heap) (e C : Addr) : Prop where
  keep : ∀ b o, h.get? b = some o → h'.get? b = some o
  new : h.objs.size ≤ e
  obj : ∃ oe vs, h'.get? e = some oe ∧ oe.cls = .ref C ∧ oe.dict = none ∧ oe.data = .fields vs ∧ vs[1]? = some .none
structure Made1 (h h' : Heap) (e C d : Addr) (fld : Str) (v : Value) : Prop where
  keep : ∀ b o, h.get? b = some o → h'.get? b = some o
  new : h.objs.size ≤ e
  obj : ∃ oe vs, h'.get? e = some oe ∧ oe.cls = .ref C ∧ oe.dict = some d ∧ oe.data = .fields vs ∧ vs[1]? = some .none
  dbig : h.objs.size ≤ d
  dne : d ≠ e
  ns : h'.Ns1 d (fun y => if y = fld then some v else none)
section
variable {P : Program} {w : World} {K : Frag} {mg : Str → Option Value} {C fI cda cc : Addr} {qual : Str} {sc : Scope} {A : Around} {R : Result → Shared → Prop} {s : Shared} {x t0 : Addr}
theorem ve_made0 {pa : Pos} {txt : Str} {k : Nat} {a b c d e f : Pos} (hpos : (c.endLine == e.line) = true)
    (T : VeT P K C fI [{ arg := "self", annotation := none, pos := pa }] [veS txt k a b c d e f] qual sc cda cc) (V : VeS K mg s) (hroom : A.depth + 1 < recursionLimit)
    (hq : ∀ h' tk e, Made0 s.heap h' e C → R (.ok (.ret (.ref e))) { s with heap := h', toks := tk }) :
    codeAny (model P w) A (.call (.ref C) ⟨[], []⟩) R s := by
  obtain ⟨nm, q, N, bs, bm, sn, sub, ab, col, dd, k0, k1, k2, k3, k5, hC, hbm⟩ := T.cls.cls
  obtain ⟨hp, g, dr, tk, os⟩ := s
  have k : ∀ b o, hp.get? b = some o → ((hp.push (kdv_tup [])).push (excO C hp.objs.size)).get? b = some o := fun b o e => Heap.get?_push_of_some _ (Heap.get?_push_of_some _ e)
  have hget : ((hp.push (kdv_tup [])).push (excO C hp.objs.size)).get? (hp.objs.size + 1) = some (excO C hp.objs.size) := by heap_get
  have X : K.In hp := V.kin
  refine call_own F.excBase_ValueError (fun X => refsVE_contains X bm hbm) (X _ _ hC) (looks_findIn X T.iC) (fun self => bind_fn X self T.tI) (by rw [sizeLine_eq]; show 0 ≤ 16777216; omega) ?_
  refine ve_init0 (s := ⟨(hp.push (kdv_tup [])).push (excO C hp.objs.size), g, dr, tk, os⟩) hpos T (V.keeps k) hget ?_ fun h' tk' t1 k' hx => ?_
  · show A.depth + 1 < recursionLimit
    exact hroom
  · have old : ∀ b o, hp.get? b = some o → h'.get? b = some o := fun b o e => k' b o (Nat.ne_of_lt (Nat.lt_succ_of_lt (Heap.lt_size e))) (k b o e)
    exact ⟨rfl, hq h' tk' (hp.objs.size + 1) ⟨old, Nat.le_succ _, ⟨_, _, hx, rfl, rfl, rfl, rfl⟩⟩⟩
theorem ve_made1 {pa pb : Pos} {txt fld : Str} {k : Nat} {a b c d e f a2 b2 c2 d2 : Pos} (hpos : (c.endLine == e.line) = true) {v : Value} (hbd : VeBind fld pa pb) (hfs : (fld == ("self" : Str)) = false) (hfd : (fld == ("__debug__" : Str)) = false) (hfl : sc.names.lookup fld = some .local) (hno : findIn K (.ref C) fld = some none)
    (T : VeT P K C fI [{ arg := "self", annotation := none, pos := pa }, { arg := fld, annotation := none, pos := pb }] [veS txt k a b c d e f, veF fld a2 b2 c2 d2] qual sc cda cc) (V : VeS K mg s) (hroom : A.depth + 1 < recursionLimit)
    (hq : ∀ h' tk e d, Made1 s.heap h' e C d fld v → R (.ok (.ret (.ref e))) { s with heap := h', toks := tk }) :
    codeAny (model P w) A (.call (.ref C) ⟨[v], []⟩) R s := by
  obtain ⟨nm, q, N, bs, bm, sn, sub, ab, col, dd, k0, k1, k2, k3, k5, hC, hbm⟩ := T.cls.cls
  obtain ⟨hp, g, dr, tk, os⟩ := s
  have k : ∀ b o, hp.get? b = some o → ((hp.push (kdv_tup [v])).push (excO C hp.objs.size)).get? b = some o := fun b o e => Heap.get?_push_of_some _ (Heap.get?_push_of_some _ e)
  have hget : ((hp.push (kdv_tup [v])).push (excO C hp.objs.size)).get? (hp.objs.size + 1) = some (excO C hp.objs.size) := by heap_get
  have X : K.In hp := V.kin
  have hnx : K.lookup (hp.objs.size + 1) = none := by
    cases e : K.lookup (hp.objs.size + 1) with
    | none => rfl
    | some o =>
      have z : hp.get? (hp.objs.size + 1) = some o := X _ _ e
      exact absurd (Nat.lt_of_succ_lt (Heap.lt_size z)) (Nat.lt_irrefl _)
  refine call_own F.excBase_ValueError (fun X => refsVE_contains X bm hbm) (X _ _ hC) (looks_findIn X T.iC) (fun self => bind_fn X self T.tI) (by rw [sizeLine_eq]; show 1 ≤ 16777216; omega) ?_
  refine ve_init1 (s := ⟨(hp.push (kdv_tup [v])).push (excO C hp.objs.size), g, dr, tk, os⟩) hpos hbd hfs hfd hfl hno T (V.keeps k) hget hnx ?_ fun h' tk' t1 dx k' dn dne hx hns => ?_
  · show A.depth + 1 < recursionLimit
    exact hroom
  · have old : ∀ b o, hp.get? b = some o → h'.get? b = some o := fun b o e => k' b o (Nat.ne_of_lt (Nat.lt_succ_of_lt (Heap.lt_size e))) (k b o e)
    have z : hp.objs.size + 1 + 1 ≤ dx := by
      first
        | (simpa only [Heap.size_push] using dn)
        | exact dn
        | (have q := dn; rw [Heap.size_push, Heap.size_push] at q; exact q)
    exact ⟨rfl, hq h' tk' (hp.objs.size + 1) dx ⟨old, Nat.le_succ _, ⟨_, _, hx, rfl, rfl, rfl, rfl⟩, Nat.le_trans (Nat.le_trans (Nat.le_succ _) (Nat.le_succ _)) z, dne, hns⟩⟩
end
end Ev
set_option Elab.async false
set_option linter.all false
set_option maxRecDepth 100000
set_option maxHeartbeats 4000000
namespace Ev
open PySem PySem.Spec PyProof.Rows L2
theorem relO_one {v : V} {v' : Value} (fld : Str) (r : RelV v v') (f : Str) : RelO (List.lookup f [(fld, v)]) (if f = fld then some v' else none) := by
  by_cases hw : f = fld
  · subst hw
    rw [if_pos rfl]
    have q : List.lookup f [(f, v)] = some v := by simp [List.lookup]
    rw [q]
    exact r
  · rw [if_neg hw]
    have qw : (f == fld) = false := by simpa using hw
    have q2 : List.lookup f [(fld, v)] = none := by simp [List.lookup, qw]
    rw [q2]
    trivial
section
variable {X : Cx} {C fI cda cc : Addr} {qual : Str} {sc : Scope}
theorem ves_of {pins : List (Addr × Obj)} {σ : L2.St} {H : Hp} {s : Shared} (I : Inv X pins σ H s) (hs : X.mg "super" = none) : VeS X.K X.mg s := by
  obtain ⟨mb, h1, h2⟩ := I.mod.blt
  exact ⟨I.kIn, I.nolimit, I.mod.glob.keeps I.bk, hs, mb, h1.keeps I.bk, h2⟩
theorem pmk_ve0 {x : Str} {p pos pa : Pos} {k : Nat} {txt : Str} {kk : Nat} {a b c d e f : Pos} (hpos : (c.endLine == e.line) = true)
    (T : VeT X.prog X.K C fI [{ arg := "self", annotation := none, pos := pa }] [veS txt kk a b c d e f] qual sc cda cc) (hs : X.mg "super" = none) (hr : Room k X.A) (kC : PySem.W.keepIn X.K (.ref C) = true) (hg : Gl X x) (hm : X.mg x = some (.ref C)) (hdb : (x == ("__debug__" : Str)) = false) :
    PMk X (.Call (.Name x p) [] [] pos) (fun σ H Q => Q (.ref C) none H) := by
  intro pins s σ H Q I h
  refine wpAny_Call_Name_kw (ld_glob I hg hm ?_ hdb)
  refine PySem.W.callWith_K0 I.kIn kC ?_
  show wpAny _ _ (call (.ref C) []) _ _ _
  have V := ves_of I hs
  obtain ⟨hp, g, dr, tk, os⟩ := s
  refine wpAny_call (ve_made0 hpos T V (by have := hr.dp; omega) fun h' tk' e M => ?_)
  show MkP X pins σ Q (.ref e) ⟨h', g, dr, tk', os⟩
  obtain ⟨oe, fv, hoe, hc, hd, hdat, h1⟩ := M.obj
  obtain ⟨G', g1, g2⟩ := restrict h' fun b => decide (b ≠ e)
  have gk : ∀ b, b ≠ e → G'.get? b = h'.get? b := fun b hb => g1 b (decide_eq_true hb)
  have ge : G'.get? e = none := g2 e (by simp)
  have old : ∀ b o, hp.get? b = some o → G'.get? b = some o := fun b o q => (gk b (Nat.ne_of_lt (Nat.lt_of_lt_of_le (Heap.lt_size q) M.new))).trans (M.keep b o q)
  have J : Inv X pins σ H ⟨G', g, dr, tk', os⟩ := I.kept (t' := tk') old
  refine ⟨e, oe, fv, ⟨G', g, dr, tk', os⟩, H, .ref C, none, rfl, J, fun b o q => ?_, ge, hoe, ⟨hc, hd⟩, hdat, h1, I.hok.fresh M.new, rfl, I.bare, raises_own T.cls.exC T.cls.tyC, h⟩
  by_cases hb : b = e
  · have q' : G'.get? b = some o := q
    rw [hb, ge] at q'; cases q'
  · exact (gk b hb).symm.trans q
theorem pmk_ve1 {x : Str} {p pos pa pb : Pos} {k : Nat} {txt fld : Str} {kk : Nat} {a b c d e f a2 b2 c2 d2 : Pos} {ex : Expr} {ta : TA} (hpos : (c.endLine == e.line) = true) (hbd : VeBind fld pa pb) (hfs : (fld == ("self" : Str)) = false) (hfd : (fld == ("__debug__" : Str)) = false) (hfl : sc.names.lookup fld = some .local) (hno : PySem.W.findIn X.K (.ref C) fld = some none)
    (T : VeT X.prog X.K C fI [{ arg := "self", annotation := none, pos := pa }, { arg := fld, annotation := none, pos := pb }] [veS txt kk a b c d e f, veF fld a2 b2 c2 d2] qual sc cda cc) (hs : X.mg "super" = none) (hr : Room k X.A) (kC : PySem.W.keepIn X.K (.ref C) = true) (hg : Gl X x) (hm : X.mg x = some (.ref C)) (hdb : (x == ("__debug__" : Str)) = false)
    (ha : PA X [ex] ta) (he : starEach (ex :: []) X.env = (false, eval ex X.env) :: starEach [] X.env := by rfl) (hpl : (backTo pos (starEach [] X.env)).any (·.1) = false := by rfl) :
    PMk X (.Call (.Name x p) [ex] [] pos) (fun σ H Q => ta σ H fun vs H1 => ∃ v, vs = [v] ∧ ∀ d, H1 d = none → Q (.ref C) (some d) (upd H1 d (.xd [(fld, v)]))) := by
  intro pins s σ H Q I h
  refine wpAny_Call_Name_kw (ld_glob I hg hm ?_ hdb)
  refine PySem.W.callWith_K (h₀ := X.base) I.ok.mod.kin kC (thn (ha.run pos pins s σ H _ I h) fun us s1 hh => ?_) he hpl
  obtain ⟨vs, H1, I1, r1, v, ev, q1⟩ := hh
  subst ev
  refine ⟨I1.kIn, ?_⟩
  cases r1 with
  | cons rv rn =>
    rename_i v' us'
    cases rn
    show wpAny _ _ (call (.ref C) [v']) _ _ _
    have V := ves_of I1 hs
    obtain ⟨hp, g, dr, tk, os⟩ := s1
    refine wpAny_call (ve_made1 hpos hbd hfs hfd hfl hno T V (by have := hr.dp; omega) fun h' tk' e d M => ?_)
    show MkP X pins σ Q (.ref e) ⟨h', g, dr, tk', os⟩
    obtain ⟨oe, fv, hoe, hc, hd, hdat, h1⟩ := M.obj
    have hns := M.ns
    obtain ⟨G', g1, g2⟩ := restrict h' fun b => decide (b ≠ e)
    have gk : ∀ b, b ≠ e → G'.get? b = h'.get? b := fun b hb => g1 b (decide_eq_true hb)
    have ge : G'.get? e = none := g2 e (by simp)
    have old : ∀ b o, hp.get? b = some o → G'.get? b = some o := fun b o q => (gk b (Nat.ne_of_lt (Nat.lt_of_lt_of_le (Heap.lt_size q) M.new))).trans (M.keep b o q)
    have ob : ObjOk X.prog X.w (upd H1 d (.xd [(fld, v)])) G' d (.xd [(fld, v)]) := ⟨_, hns.at (fun o q => (gk d M.dne).trans q), fun f => relO_one fld rv f⟩
    have J : Inv X pins σ (upd H1 d (.xd [(fld, v)])) ⟨G', g, dr, tk', os⟩ := I1.laid (t' := tk') old M.dbig ob
    refine ⟨e, oe, fv, ⟨G', g, dr, tk', os⟩, _, .ref C, some d, rfl, J, fun b o q => ?_, ge, hoe, ⟨hc, hd⟩, hdat, h1, ?_, rfl, I1.bare, raises_own T.cls.exC T.cls.tyC, q1 d (I1.hok.fresh M.dbig)⟩
    · by_cases hb : b = e
      · have q' : G'.get? b = some o := q
        rw [hb, ge] at q'; cases q'
      · exact (gk b hb).symm.trans q
    · rw [upd_ne (Ne.symm M.dne)]
      exact I1.hok.fresh M.new
end
end Ev
set_option linter.all false
set_option maxHeartbeats 4000000
namespace Ev
open PySem L2

/-! ## raise C(), raise C(e) -/
/-- what the written part says of the n-th own error -/
structure ExX (P : Program) (c : Cs) (n : Nat) (xi : ExcI) : Prop where
  kp : PySem.W.keepIn c.K (.ref (c.ex n)) = true
  fl : c.exf n = xi.flds
  mk0 : xi.flds = [] → ∃ fI qual sc cda cc pa txt kk a b c' d e f, ((c' : Pos).endLine == (e : Pos).line) = true ∧ VeT P c.K (c.ex n) fI [{ arg := "self", annotation := none, pos := pa }] [veS txt kk a b c' d e f] qual sc cda cc
  mk1 : ∀ fld, xi.flds = [fld] → ∃ fI qual sc cda cc pa pb txt kk a b c' d e f a2 b2 c2 d2, ((c' : Pos).endLine == (e : Pos).line) = true ∧ VeBind fld pa pb ∧ (fld == ("self" : Str)) = false ∧ (fld == ("__debug__" : Str)) = false ∧ (sc : Scope).names.lookup fld = some .local ∧ PySem.W.findIn c.K (.ref (c.ex n)) fld = some none ∧
    VeT P c.K (c.ex n) fI [{ arg := "self", annotation := none, pos := pa }, { arg := fld, annotation := none, pos := pb }] [veS txt kk a b c' d e f, veF fld a2 b2 c2 d2] qual sc cda cc
structure GX (P : Program) (c : Cs) (G : Gm) (mg : Str → Option Value) : Prop where
  nm : ∀ x n xi, G.names.lookup x = some (.exc n) → G.excs[n]? = some xi → mg x = some (.ref (c.ex n))
  su : mg "super" = none
  ex : ∀ n xi, G.excs[n]? = some xi → ExX P c n xi

def raiseX (G : Gm) (R : Rec) (fr : Fr) (n : Nat) (xi : ExcI) (es : List Expr) (σ : Env) (S : Store) : SOut := match es, xi.flds with
  | [], [] => .exc n [] σ S
  | [e], [_] => liftS (R.E fr σ e S) σ fun v S1 => match v.toW with
    | .d x => .exc n [x] σ S1
    | _ => .bad
  | _, _ => .bad
def raiseS (G : Gm) (R : Rec) (fr : Fr) (e : Expr) (σ : Env) (S : Store) : SOut := match e with
  | .Call (.Name x _) es [] _ => if isGl fr x && plainArgs es then match G.names.lookup x with
    | some (.exc n) => match G.excs[n]? with
      | some xi => raiseX G R fr n xi es σ S
      | none => .bad
    | _ => .bad
    else .bad
  | _ => .bad
section
variable {c : Cs} {G : Gm} {fr : Fr} {X : Cx} {Wx : WX} {R : Rec} {k : Nat}
theorem js_raiseC (ok : XOk c G fr X) (gx : GX X.prog c G X.mg) (tk : Takes X Wx) (hr : Room k X.A) (hE : ∀ e, PE X e (tE c (xwOf c Wx) fun σ S => R.E fr σ e S)) {x : Str} {p pos2 : Pos} {es : List Expr} (pos : Pos) :
    PS X (.Raise (some (.Call (.Name x p) es [] pos2)) none pos) (tS c Wx fun σ S => raiseS G R fr (.Call (.Name x p) es [] pos2) σ S) := by
  obtain ⟨e, he⟩ : ∃ e, e = Expr.Call (.Name x p) es [] pos2 := ⟨_, rfl⟩
  rw [← he]
  have bad : (∀ σ S, raiseS G R fr e σ S = .bad) → PS X (.Raise (some e) none pos) (tS c Wx fun σ S => raiseS G R fr e σ S) := fun h => by
    have : (fun σ S => raiseS G R fr e σ S) = fun _ _ => SOut.bad := by funext σ S; exact h σ S
    rw [this]
    exact js_bad
  subst he
  · skip
    by_cases hg : (isGl fr x && plainArgs es) = true
    case neg => exact bad fun σ S => by unfold raiseS; simp only [if_neg hg]
    cases hx : G.names.lookup x with
    | none => exact bad fun σ S => by unfold raiseS; simp only [if_pos hg, hx]
    | some gv =>
      cases gv with
      | fn i => exact bad fun σ S => by unfold raiseS; simp only [if_pos hg, hx]
      | cls i => exact bad fun σ S => by unfold raiseS; simp only [if_pos hg, hx]
      | val i => exact bad fun σ S => by unfold raiseS; simp only [if_pos hg, hx]
      | exc n =>
        cases hn : G.excs[n]? with
        | none => exact bad fun σ S => by unfold raiseS; simp only [if_pos hg, hx, hn]
        | some xi =>
          have hm := gx.nm x n xi hx hn
          have ex := gx.ex n xi hn
          have hg2 := hg
          rw [Bool.and_eq_true] at hg2
          obtain ⟨hG, hdb⟩ := isGl_gl ok hg2.1
          have red : (fun σ S => raiseS G R fr (.Call (.Name x p) es [] pos2) σ S) = fun σ S => raiseX G R fr n xi es σ S := by
            funext σ S
            unfold raiseS
            simp only [if_pos hg, hx, hn]
          rw [red]
          have kp : PySem.W.keepIn X.K (.ref (c.ex n)) = true := by rw [ok.K]; exact ex.kp
          have badX : (∀ σ S, raiseX G R fr n xi es σ S = .bad) → PS X (.Raise (some (.Call (.Name x p) es [] pos2)) none pos) (tS c Wx fun σ S => raiseX G R fr n xi es σ S) := fun h => by
            have : (fun σ S => raiseX G R fr n xi es σ S) = fun _ _ => SOut.bad := by funext σ S; exact h σ S
            rw [this]
            exact js_bad
          cases es with
          | nil =>
            cases hf : xi.flds with
            | cons _ _ => exact badX fun σ S => by unfold raiseX; rw [hf]
            | nil =>
              obtain ⟨fI, qual, sc, cda, cc, pa, txt, kk, a1, b1, c1, d1, e1, f1, hpos, T⟩ := ex.mk0 hf
              rw [← ok.K] at T
              refine js_imp (ps_raise ok.calm tk (pmk_ve0 hpos T gx.su hr kp hG hm hdb)) fun D τ H h => ?_
              obtain ⟨σ, S, F, ρ, a, q⟩ := h
              have q : QS c Wx F ρ H D (raiseX G R fr n xi [] σ S) := q
              unfold raiseX at q
              rw [hf] at q
              exact q τ F H ρ _ _ (Step.refl _ _ _) a ⟨rfl, rfl⟩
          | cons e0 es' =>
            cases es' with
            | cons _ _ => exact badX fun σ S => by unfold raiseX; rfl
            | nil =>
              cases hf : xi.flds with
              | nil => exact badX fun σ S => by unfold raiseX; rw [hf]
              | cons fld r =>
                cases r with
                | cons _ _ => exact badX fun σ S => by unfold raiseX; rw [hf]
                | nil =>
                  obtain ⟨fI, qual, sc, cda, cc, pa, pb, txt, kk, a1, b1, c1, d1, e1, f1, a2, b2, c2, d2, hpos, hbd, hfs, hfd, hfl, hno, T⟩ := ex.mk1 fld hf
                  rw [← ok.K] at T hno
                  refine js_imp (ps_raise ok.calm tk (pmk_ve1 hpos hbd hfs hfd hfl hno T gx.su hr kp hG hm hdb (ja_argsK hE [] [e0] hg2.2) (starEach_plain (plain_cons hg2.2).1))) fun D τ H h => ?_
                  obtain ⟨σ, S, F, ρ, a, q⟩ := h
                  have q : QS c Wx F ρ H D (raiseX G R fr n xi [e0] σ S) := q
                  unfold raiseX at q
                  rw [hf] at q
                  have q : QS c Wx F ρ H D (liftS (R.E fr σ e0 S) σ fun v S1 => match v.toW with
                    | .d x => .exc n [x] σ S1
                    | _ => .bad) := q
                  refine ⟨σ, S, F, ρ, a, ?_⟩
                  show QO c (xwOf c Wx) τ F ρ H ((R.E fr σ e0 S).bind fun v S1 => (evArgsK R fr σ [] [] (keepW false v S1).2).bind fun ws S2 => .ok ((keepW false v S1).1 :: ws) S2) _
                  cases hv : R.E fr σ e0 S with
                  | bad =>
                    rw [hv] at q
                    exact q.elim
                  | exc n fs S1 =>
                    rw [hv] at q
                    exact fun F' H' ρ' st sr cls d ea => q τ F' H' ρ' cls d st (a.step st sr) ea
                  | ok rv S1 =>
                    rw [hv] at q
                    have kw : keepW false rv S1 = (rv.toW, S1) := by cases rv <;> rfl
                    show QO c (xwOf c Wx) τ F ρ H (.ok [(keepW false rv S1).1] (keepW false rv S1).2) _
                    rw [kw]
                    intro F' H' ρ' st sr vs wr
                    cases wr with
                    | @cons v _ _ _ wv wn =>
                      cases wn
                      refine ⟨v, rfl, fun d hd => ?_⟩
                      have q : QS c Wx F ρ H D (match rv.toW with
                        | .d x => .exc n [x] σ S1
                        | _ => .bad) := q
                      cases hw : rv.toW with
                      | ref _ =>
                        rw [hw] at q
                        exact q.elim
                      | ex _ _ =>
                        rw [hw] at q
                        exact q.elim
                      | d x =>
                        rw [hw] at q wv
                        obtain ⟨st2, sr2⟩ := new_own (o := .xd [(fld, v)]) sr hd
                        cases wv with
                        | d rv' => exact q τ F' _ ρ' _ _ (st.trans st2) (a.step (st.trans st2) sr2) ⟨rfl, d, [v], rfl, by rw [ex.fl, hf]; exact upd_same, by rw [ex.fl, hf]; rfl, .cons rv' .nil⟩
theorem js_raise (ok : XOk c G fr X) (gx : GX X.prog c G X.mg) (tk : Takes X Wx) (hr : Room k X.A) (hE : ∀ e, PE X e (tE c (xwOf c Wx) fun σ S => R.E fr σ e S)) (e : Expr) (pos : Pos) :
    PS X (.Raise (some e) none pos) (tS c Wx fun σ S => raiseS G R fr e σ S) := by
  have h : ∀ x p es pos2, e = .Call (.Name x p) es [] pos2 → PS X (.Raise (some e) none pos) (tS c Wx fun σ S => raiseS G R fr e σ S) := fun x p es pos2 he => by
    subst he
    exact js_raiseC ok gx tk hr hE pos
  unfold raiseS at h ⊢
  split
  · exact h _ _ _ _ rfl
  · exact js_bad
end
end Ev
set_option Elab.async false
set_option linter.all false
set_option maxRecDepth 100000
set_option maxHeartbeats 4000000
namespace Ev
open PySem PySem.Spec PyProof.Rows L2

/-! ## try with several clauses, each with a name or without -/
structure HS where
  c : Value
  nm : Option Nat
  ts : Addr → Value → Option Addr → TS
def goneD : Option Nat → Ends → Ends
  | none, D => D
  | some i, D => { nx := fun σ' H' => D.nx (σ'.set i none) H', rt := D.rt, bk := fun σ' H' => D.bk (σ'.set i none) H', ct := fun σ' H' => D.ct (σ'.set i none) H' }
def entS : Option Nat → Addr → L2.St → L2.St
  | none, _, σ => σ
  | some i, a, σ => σ.set i (some (.ref a))
def wTry (K : PySem.W.Frag) (Wout : WX) (D : Ends) : List HS → WX
  | [] => Wout
  | h :: r => fun cls d σ H => ∃ b, PySem.W.exmOne K cls h.c = some b ∧ (b = true → ∀ a, H a = none → h.ts a cls d (goneD h.nm D) (entS h.nm a σ) H) ∧ (b = false → wTry K Wout D r cls d σ H)
def NmOk (X : Cx) : Option Str → Option Nat → Prop
  | none, none => True
  | some n, some i => X.N[i]? = some n ∧ X.env.kindOf n = some .local
  | _, _ => False
inductive HsOk (X : Cx) : List ExceptHandler → List HS → Prop
  | nil : HsOk X [] []
  | cons {x : Str} {h : HS} {nm : Option Str} {b₀ : Stmt} {suite : List Stmt} {np pos' : Pos} {hds : List ExceptHandler} {l : List HS} (hc : Names X x h.c) (hn : NmOk X nm h.nm)
      (hsu : ∀ (a : Addr) (oe : Obj) (cls : Value) (d : Option Addr) (pn : List (Addr × Obj)), Zc cls d oe → (∃ vs, oe.data = .fields vs) → PSs (X.suite a ((a, oe) :: pn)) (b₀ :: suite) (h.ts a cls d)) (r : HsOk X hds l) :
      HsOk X (.ExceptHandler (some (.Name x np)) nm (b₀ :: suite) pos' :: hds) (h :: l)
section
variable {X : Cx} {pins : List (Addr × Obj)} {D : Ends} {Wout : WX}
/-- what stands while an exception is looked at by the clauses: it is on the ground -/
structure Landed (X : Cx) (pins : List (Addr × Obj)) (a : Addr) (B : Heap) (sI s : Shared) (σ : L2.St) (H : Hp) (cls : Value) (d : Option Addr) : Prop where
  inv : Inv X pins σ H sI
  nb : ∀ b o, sI.heap.get? b = some o → b ∉ frs X.stack → B.get? b = some o
  up : sI.heap.UpToSlots s.heap
  fly : HandSPX.FlyingZ B (X.env :: X.outer) a (Zc cls d) s.heap
  na : H a = none
  os : s.os = sI.os
  ag : AllBare s.gens
variable {a : Addr} {B : Heap} {sI s : Shared} {σ : L2.St} {H : Hp} {cls : Value} {d : Option Addr}
theorem Landed.here (L : Landed X pins a B sI s σ H cls d) : Inv X pins σ H s := L.inv.landed L.nb L.fly.1 L.up L.os L.ag
/-- seen from a suite -/
theorem Landed.suite (L : Landed X pins a B sI s σ H cls d) (hf : X.env.frame = some X.env.locals) : ∃ oe, Zc cls d oe ∧ (∃ vs, oe.data = .fields vs) ∧ s.heap.get? a = some oe ∧ Inv (X.suite a ((a, oe) :: (X.pn ++ pins))) [] σ H s := by
  obtain ⟨oe, vs, he, hz, hd⟩ := L.fly.there
  have nfr : a ∉ frs (X.env :: X.outer) := fun hm => by
    obtain ⟨_, o', e', hnf⟩ := L.fly.2.2.1.mem hm
    have := he.symm.trans e'
    cases this
    exact hnf _ hd
  refine ⟨oe, hz, ⟨vs, hd⟩, he, L.here.suite he hd L.na (fun z => nfr (List.mem_filterMap.mpr ⟨X.env, .head _, by rw [hf, z]⟩)) fun hm => ?_⟩
  obtain ⟨e, he', q⟩ := List.mem_filterMap.mp hm
  exact nfr (List.mem_filterMap.mpr ⟨e, .tail _ he', q⟩)
theorem Landed.heap (L : Landed X pins a B sI s σ H cls d) {h' : Heap} (fl : HandSPX.FlyingZ B (X.env :: X.outer) a (Zc cls d) h') (up : s.heap.UpToSlots h') : Landed X pins a B sI { s with heap := h' } σ H cls d :=
  ⟨L.inv, L.nb, L.up.trans up, fl, L.na, L.os, L.ag⟩
/-- no clause takes it: it flies on -/
theorem Landed.on (L : Landed X pins a B sI s σ H cls d) (hs : X.stack = X.env :: X.outer) (hf : X.env.frame = some X.env.locals) (tk : Takes X Wout) (w : Wout cls d σ H) {Q : Flow → Shared → Prop} :
    wpAny (model X.prog X.w) X.A (handleBy (.ref a) X.env []) Q X.xe s := by
  obtain ⟨_, _, _, oe, vs, T, oT, ts', he, hz, hd, h1, hr⟩ := id L.fly
  have up : wpAny (model X.prog X.w) X.A (setFlight (.ref a) X.env.frame) (fun _ s4 => wpAny (model X.prog X.w) X.A (throw (.ref a) : Sem Flow) Q X.xe s4) X.xe s := by
    rw [hf]
    exact HandSPX.setFlight_upZ L.fly fun h4 hh4 up4 => wpAny_throw (tk _ _ ⟨a, B, sI, pins, σ, H, cls, d, rfl, L.inv, L.nb, L.up.trans up4, .inr (.inr (by rw [hs]; exact hh4)), L.na, L.os, L.ag, w⟩)
  refine wpAny_handleBy_nil (by
    unfold PySem.passOn
    refine wpAny_bind (wpAny_field he hd h1 ?_)
    rw [if_neg (show ¬ ((Value.ref T == Value.none) = true) by simp)]
    first
      | exact wpAny_bind (wpAny_pure (wpAny_bind up))
      | exact wpAny_bind up)
theorem hs_go (hs : X.stack = X.env :: X.outer) (hf : X.env.frame = some X.env.locals) (hN : X.N.Nodup) (tk : Takes X Wout) {hds : List ExceptHandler} {l : List HS} (hk : HsOk X hds l) :
    ∀ {s : Shared}, Landed X pins a B sI s σ H cls d → wTry X.K Wout D l cls d σ H → wpAny (model X.prog X.w) X.A (handleBy (.ref a) X.env hds) (SP X pins D) X.xe s := by
  induction hk with
  | nil => exact fun L w => L.on hs hf tk w
  | @cons x h nm b₀ suite np pos' hds l hc hn hsu r ih =>
    intro s L w
    obtain ⟨b, hb, hyes, hno⟩ := w
    obtain ⟨oe, hz, hfl, he, S⟩ := L.suite hf
    have ok := L.inv.ok
    refine wpAny_handleBy_cons (codeAny_handlers_test ?_) (by intro q; cases q)
    have ty : PySem.W.Looks (model X.prog X.w) s.heap (typeOf (.ref a)) cls := fun _ _ _ _ k q => wpAny_typeOf_ref (k _ _ he) (by rw [hz.1]; exact q)
    have LM := PySem.W.exm_one (M := model X.prog X.w) L.here.kIn ty hb
    have named : ∀ {Q : Value → Shared → Prop} {E : Value → Shared → Prop}, Q h.c s → wpAny (model X.prog X.w) (X.A.mark (some (.ref a))) (eval (.Name x np) X.env) Q E s := fun {Q E} q => by
      rcases hc with ⟨hg, hdb, hm | ⟨hm, hv, hnn⟩⟩
      · exact ld_glob (X := X.suite a ((a, oe) :: (X.pn ++ pins))) S hg hm q hdb
      · exact ld_blt (X := X.suite a ((a, oe) :: (X.pn ++ pins))) S hg hm hv q hnn hdb
    refine named (LM.here ?_)
    cases b with
    | false => exact ih L (hno rfl)
    | true =>
      have w := hyes rfl a L.na
      cases nm with
      | none =>
        cases hi : h.nm with
        | some i => rw [hi] at hn; exact hn.elim
        | none =>
          rw [hi] at w
          refine codeAny_handlers_suite (HandSPX.lands_againZ L.fly fun h4 fl4 up4 => ?_)
          obtain ⟨oe4, hz4, hd4, he4, S4⟩ := (L.heap fl4 up4).suite hf
          refine wpAny_mono ((hsu a oe4 cls d (X.pn ++ pins) hz4 hd4).run [] _ _ H _ S4 w) (fun f s6 hsp => ?_) (fun _ _ z => z.elim)
          cases f with
          | ret u =>
            obtain ⟨v6, σ6, H6, S6, r6, q6⟩ := hsp
            exact ⟨_, _, _, S6.unsuite ok, r6, q6⟩
          | next => exact let ⟨_, _, S6, q6⟩ := hsp; ⟨_, _, S6.unsuite ok, q6⟩
          | brk => exact let ⟨_, _, S6, q6⟩ := hsp; ⟨_, _, S6.unsuite ok, q6⟩
          | cont => exact let ⟨_, _, S6, q6⟩ := hsp; ⟨_, _, S6.unsuite ok, q6⟩
      | some n =>
        cases hi : h.nm with
        | none => rw [hi] at hn; exact hn.elim
        | some i =>
          rw [hi] at hn w
          obtain ⟨hix, hln⟩ := hn
          refine codeAny_handlers_suite_as (HandSPX.lands_againZ L.fly fun h4 fl4 up4 => ?_)
          obtain ⟨oe4, hz4, hd4, he4, S4⟩ := (L.heap fl4 up4).suite hf
          refine store_ok (X := X.suite a ((a, oe4) :: (X.pn ++ pins))) (v := .ref a) S4 hN hix (.inl hln) rfl (fun s5 S5 => ?_) (.inr hln)
          refine wpAny_mono ((hsu a oe4 cls d (X.pn ++ pins) hz4 hd4).run [] s5 _ H _ S5 w) (fun f s6 hsp => ?_) (fun _ _ z => z.elim)
          have leave : ∀ {σ6 : L2.St} {H6 : Hp} {Q : Shared → Prop}, Inv (X.suite a ((a, oe4) :: (X.pn ++ pins))) [] σ6 H6 s6 → (∀ s7, Inv X pins (σ6.set i none) H6 s7 → Q s7) →
              wpAny (model X.prog X.w) X.A (do bindName X.env n .none; unbindBehindTheSuite X.env n pos') (fun _ s7 => Q s7) X.xe s6 := fun {σ6 H6 Q} S6 hq => gone_ok (S6.unsuite ok) hN hix hln hq
          cases f with
          | ret u =>
            obtain ⟨v6, σ6, H6, S6, r6, q6⟩ := hsp
            exact leave S6 fun s7 J7 => ⟨_, _, _, J7, r6, q6⟩
          | next => exact let ⟨_, _, S6, q6⟩ := hsp; leave S6 fun s7 J7 => ⟨_, _, J7, q6⟩
          | brk => exact let ⟨_, _, S6, q6⟩ := hsp; leave S6 fun s7 J7 => ⟨_, _, J7, q6⟩
          | cont => exact let ⟨_, _, S6, q6⟩ := hsp; leave S6 fun s7 J7 => ⟨_, _, J7, q6⟩
/-- try: body, clauses -/
theorem ps_try {body : List Stmt} {h₀ : ExceptHandler} {hds : List ExceptHandler} {l : List HS} {pos : Pos} {tb : WX → TS} (hs : X.stack = X.env :: X.outer) (hf : X.env.frame = some X.env.locals) (hN : X.N.Nodup) (tk : Takes X Wout)
    (hb : ∀ (W : WX) (pn : List (Addr × Obj)) (xe : Value → Shared → Prop), Takes (X.tr pn xe) W → PassesOwn (model X.prog X.w) X.A X.env xe → PSs (X.tr pn xe) body (tb W))
    (hk : HsOk X (h₀ :: hds) l) : PS X (.Try body (h₀ :: hds) [] [] pos) (fun D σ H => tb (wTry X.K Wout D l) D σ H) := by
  refine ⟨fun pins s σ H D I h => ?_⟩
  have ok := I.ok
  refine wpAny_Try_except (wpAny_mono ((hb (wTry X.K Wout D l) (X.pn ++ pins) (fun e s₁ => wpAny (model X.prog X.w) X.A (noteFrame e X.env) (fun _ s₂ => wpAny (model X.prog X.w) X.A (setFlight e none) (fun _ s₃ =>
    wpAny (model X.prog X.w) X.A (handleBy e X.env (h₀ :: hds)) (SP X pins D) X.xe s₃) X.xe s₂) X.xe s₁) (fun u s' xx => ?_) PassesOwn.looking).run [] s σ H D (I.toTry _) h) (fun f s1 hsp => ?_) fun _ _ z => z)
  · obtain ⟨a, B, sI, pins', σ', H', cls, d, rfl, J', nb, up, sky, na, os, ag, w⟩ := xx
    have sky : Sky B (X.env :: X.outer) a (Zc cls d) X.env.locals s'.heap := by rw [← hs]; exact sky
    exact sky.land Zc.steady (by rw [ok.frames, hs]) hf fun h3 fl3 up3 => hs_go hs hf hN tk hk (s := { s' with heap := h3 }) (sI := sI) (B := B) ⟨J'.ofTry ok, nb, up.trans up3, fl3, na, os, ag⟩ w
  · cases f with
    | ret u =>
      obtain ⟨v, σ', H', J', r, q⟩ := hsp
      exact ⟨v, σ', H', J'.ofTry ok, r, q⟩
    | next => exact let ⟨_, _, J', q⟩ := hsp; wpAny_execs_nil ⟨_, _, J'.ofTry ok, q⟩
    | brk => exact let ⟨_, _, J', q⟩ := hsp; ⟨_, _, J'.ofTry ok, q⟩
    | cont => exact let ⟨_, _, J', q⟩ := hsp; ⟨_, _, J'.ofTry ok, q⟩
end
end Ev
set_option Elab.async false
set_option linter.all false
set_option maxRecDepth 100000
set_option maxHeartbeats 4000000
namespace Ev
open PySem PySem.Spec PyProof.Rows L2

/-! ## the suite of a clause: one assignment -/
/-- the exception's field -/
def fldA : List Str → List D → Str → Option D
  | f :: fs, x :: xs, g => if f = g then some x else fldA fs xs g
  | _, _, _ => none
/-- is it the exception's name? -/
def isEx (nm : Option Str) (y : Str) : Bool := match nm with
  | some z => decide (z = y)
  | none => false
/-- is it isinstance(error, C), true? -/
def suI (G : Gm) (fr : Fr) (nm : Option Str) (xi : ExcI) (x y z : Str) : Bool := isEx nm y && isBi G fr x "isinstance" && isGl fr z && match G.names.lookup z with
  | some (.exc j) => (G.excs[j]?).isSome && xi.anc.contains j
  | _ => false
def suB (nm : Option Str) (xi : ExcI) (fs : List D) : Expr → Option D
  | .Constant k _ _ => constD k
  | .Attribute (.Name y _) f _ => if isEx nm y = true then fldA xi.flds fs f else none
  | _ => none
def suA (G : Gm) (fr : Fr) (nm : Option Str) (xi : ExcI) (fs : List D) : Expr → Option D
  | .Call (.Name x _) [.Name y _, .Name z _] [] _ => if suI G fr nm xi x y z = true then some (.bl true) else none
  | .IfExp (.Call (.Name x _) [.Name y _, .Name z _] [] _) b _ _ => if suI G fr nm xi x y z = true then suB nm xi fs b else none
  | e => suB nm xi fs e
def suE (G : Gm) (fr : Fr) (nm : Option Str) (xi : ExcI) (fs : List D) : Expr → Option RV
  | .List [a, b] _ => match suA G fr nm xi fs a, suA G fr nm xi fs b with
    | some x, some y => some (.own [x, y])
    | _, _ => none
  | e => (suA G fr nm xi fs e).map .d

/-- what the text says of its own errors, where they are caught -/
structure GE (c : Cs) (G : Gm) : Prop where
  cl : ∀ (n : Nat) (xi : ExcI), G.excs[n]? = some xi → (PySem.W.clsIn c.K (c.ex n)).isSome = true
  hd : ∀ (n : Nat) (xi : ExcI), G.excs[n]? = some xi → PySem.W.hasDictIn c.K (c.ex n) = true
  ga : ∀ (n : Nat) (xi : ExcI), G.excs[n]? = some xi → PySem.W.findIn c.K (.ref (c.ex n)) "__getattribute__" = some (some (.builtin "BaseException.__getattribute__"))
  gg : ∀ (n : Nat) (xi : ExcI), G.excs[n]? = some xi → PySem.W.findIn c.K (.ref (c.ex n)) "__getattr__" = some none
  sb : ∀ (n : Nat) (xi : ExcI), G.excs[n]? = some xi → PySem.W.subIn c.K (.ref (c.ex n)) (.type "BaseException") = some true
  ca : ∀ (n : Nat) (xi : ExcI), G.excs[n]? = some xi → PySem.W.findIn c.K (.ref (c.ex n)) "__class__" = some (some (.builtin "object.__class__"))
  mo : ∀ (n : Nat) (xi : ExcI), G.excs[n]? = some xi → PySem.W.mroIn c.K (c.ex n) (.type "object") = some true
  nf : ∀ (n : Nat) (xi : ExcI) (f : Str), G.excs[n]? = some xi → f ∈ xi.flds → PySem.W.findIn c.K (.ref (c.ex n)) f = some none
  hn : PySem.W.specialIn c.K (.builtin "object.__class__") "__get__" = some (some (.builtin "getset_descriptor.__get__"))
  tk : PySem.W.takesIn c.K (.builtin "object.__class__") = some true
  kit : ∀ (n j : Nat) (xi xj : ExcI), G.excs[n]? = some xi → G.excs[j]? = some xj → xi.anc.contains j = true → PySem.W.kitOne c.K (.ref (c.ex n)) (.ref (c.ex j)) = some true
  exm : ∀ (n j : Nat) (xi xj : ExcI), G.excs[n]? = some xi → G.excs[j]? = some xj → PySem.W.exmOne c.K (.ref (c.ex n)) (.ref (c.ex j)) = some (xi.anc.contains j)
  nm : ∀ (n : Nat) (xi : ExcI), G.excs[n]? = some xi → c.exf n = xi.flds

/-- the state in a suite: the exception lies at a, in slot -/
structure SuAt (c : Cs) (G : Gm) (slot : Option Nat) (a : Addr) (cls : Value) (d : Option Addr) (n : Nat) (xi : ExcI) (fs : List D) (σ : Env) (S : Store) (τ : L2.St) (F H : Hp) (ρ : List Addr) : Prop where
  at_ : At c σ S τ F H ρ
  ex : ExcAt c F H n fs cls d
  xi : G.excs[n]? = some xi
  sl : ∀ i, slot = some i → τ[i]? = some (some (.ref a))
def tU (c : Cs) (G : Gm) (slot : Option Nat) (a : Addr) (cls : Value) (d : Option Addr) (f : ExcI → List D → Option D) : TE := fun τ H Q => ∃ n xi fs σ S F ρ, SuAt c G slot a cls d n xi fs σ S τ F H ρ ∧ ∃ x, f xi fs = some x ∧ ∀ v, Rep c F v x → Q v H
section
variable {c : Cs} {G : Gm} {fr : Fr} {X : Cx} {a : Addr} {oe : Obj} {cls : Value} {d : Option Addr} {pn : List (Addr × Obj)} {nm : Option Str} {slot : Option Nat}
theorem NmOk.var (hn : NmOk X nm slot) {y : Str} (hy : isEx nm y = true) : ∃ i, slot = some i ∧ X.N[i]? = some y ∧ X.env.kindOf y = some .local := by
  unfold isEx at hy
  cases nm with
  | none => cases hy
  | some z =>
    have hz : z = y := of_decide_eq_true hy
    subst hz
    cases slot with
    | none => exact hn.elim
    | some i => exact ⟨i, rfl, hn.1, hn.2⟩
/-- the exception's name -/
theorem su_var (hn : NmOk X nm slot) (hd1 : ∀ y, nm = some y → (y == ("__debug__" : Str)) = false ∧ (y == ("__classdict__" : Str)) = false) {y : Str} (hy : isEx nm y = true) {p : Pos} {f : ExcI → List D → Option D} :
    PE (X.suite a ((a, oe) :: pn)) (.Name y p) (fun τ H Q => ∃ n xi fs σ S F ρ, SuAt c G slot a cls d n xi fs σ S τ F H ρ ∧ Q (.ref a) H) := by
  obtain ⟨i, rfl, h1, h2⟩ := hn.var hy
  have hyn : nm = some y := by
    unfold isEx at hy
    cases nm with
    | none => cases hy
    | some z => rw [of_decide_eq_true hy]
  obtain ⟨d1, d2⟩ := hd1 y hyn
  refine je_imp (pe_var (X := X.suite a ((a, oe) :: pn)) (i := i) h1 (.inl h2) d1 d2) fun τ H Q h => ?_
  obtain ⟨n, xi, fs, σ, S, F, ρ, u, q⟩ := h
  exact ⟨.ref a, u.sl i rfl, q⟩
theorem xd_fld {c : Cs} {F : Hp} {g : Str} : ∀ {fl : List Str} {vs : List V} {fs : List D}, Reps c F vs fs → ∀ {x : D}, fldA fl fs g = some x → ∃ v, List.lookup g (fl.zip vs) = some v ∧ Rep c F v x
  | [], _, _, _, x, h => by unfold fldA at h; cases h
  | f :: fl, _, _, .nil, x, h => by unfold fldA at h; cases h
  | f :: fl, _, _, .cons (v := v) r rs, x, h => by
    unfold fldA at h
    by_cases e : f = g
    · rw [if_pos e] at h
      cases h
      subst e
      exact ⟨v, by simp [List.lookup], r⟩
    · rw [if_neg e] at h
      obtain ⟨u, h1, h2⟩ := xd_fld rs h
      refine ⟨u, ?_, h2⟩
      have e2 : (g == f) = false := by simpa using fun z => e z.symm
      show List.lookup g ((f, v) :: fl.zip _) = _
      rw [List.lookup_cons, e2]
      exact h1
theorem fldA_mem {g : Str} : ∀ {fl : List Str} {fs : List D} {x : D}, fldA fl fs g = some x → g ∈ fl ∧ fs ≠ []
  | [], _, _, h => by unfold fldA at h; cases h
  | f :: fl, [], _, h => by unfold fldA at h; cases h
  | f :: fl, y :: fs, x, h => by
    unfold fldA at h
    by_cases e : f = g
    · subst e
      exact ⟨List.mem_cons_self .., by simp⟩
    · rw [if_neg e] at h
      exact ⟨List.mem_cons_of_mem _ (fldA_mem h).1, by simp⟩
/-- its field -/
theorem su_fld (hK : X.K = c.K) (ge : GE c G) (hn : NmOk X nm slot) (hd1 : ∀ y, nm = some y → (y == ("__debug__" : Str)) = false ∧ (y == ("__classdict__" : Str)) = false) (hz : Zc cls d oe) (hf : ∃ vs, oe.data = .fields vs) {y f : Str} (hy : isEx nm y = true) {p pos : Pos} :
    PE (X.suite a ((a, oe) :: pn)) (.Attribute (.Name y p) f pos) (tU c G slot a cls d fun xi fs => fldA xi.flds fs f) := by
  have he := su_var (c := c) (G := G) (cls := cls) (d := d) (oe := oe) (a := a) (pn := pn) (p := p) (f := fun _ _ => none) hn hd1 hy
  refine ⟨fun pins s τ H Q I h => ?_⟩
  obtain ⟨n, xi, fs, σ, S, F, ρ, u, x, hx, q⟩ := h
  have ux := u.xi
  refine attr_of (by rfl) (thn (he.run pins s τ H (fun w H1 => w = .ref a ∧ H1 = H) I ⟨n, xi, fs, σ, S, F, ρ, u, rfl, rfl⟩) fun u1 s1 hh => ?_)
  obtain ⟨w, H1, I1, rx, rfl, rfl⟩ := hh
  obtain rfl : u1 = Value.ref a := rx
  obtain ⟨hm, hne⟩ := fldA_mem hx
  obtain ⟨e1, e2⟩ := u.ex
  cases hfs : fs with
  | nil => exact absurd hfs hne
  | cons y0 ys =>
    rw [hfs] at e2
    obtain ⟨dd, vs, e3, e4, e5, e6⟩ := e2
    rw [← hfs] at e6
    rw [ge.nm n xi ux] at e4 e5
    obtain ⟨v, hl, hr⟩ := xd_fld e6 hx
    obtain ⟨ha, _⟩ := I1.pin (a, oe) (List.mem_append_left _ List.mem_cons_self)
    obtain ⟨ws, hdat⟩ := hf
    have hxd : ObjOk X.prog X.w H1 s1.heap dd (.xd (xi.flds.zip vs)) := I1.hok dd _ e4
    obtain ⟨mA, hns, hro⟩ := hxd
    obtain ⟨od, ho, hlk⟩ := lookIn_ns hns
    obtain ⟨u, hu, ru⟩ := RelO.some_of (v := v) (o := mA f) (by rw [← hl]; exact hro f)
    have J : PySem.W.InstAt s1.heap a oe (c.ex n) (some od) := ⟨ha, by rw [hz.1]; exact e1, by unfold PySem.W.notCls; rw [hdat], by rw [hz.2, e3]; exact ho⟩
    have kin : c.K.In s1.heap := hK ▸ I1.kIn
    exact HandSPX.exc_get kin J (ge.ga n xi ux) (ge.gg n xi ux) (ge.sb n xi ux) (PySem.W.findObj_own (ge.hd n xi ux) (ge.nf n xi f ux hm) rfl (by rw [hlk, hu])) (handed_of ru) ⟨v, H1, I1.tok _, ru, q v hr⟩
/-- isinstance(error, C), true -/
def rIsX (c : Cs) (a : Addr) (n j : Nat) : List V → Hp → VK → Prop := fun vs H Q => vs = [.ref a, .ref (c.ex j)] ∧ Q (.bl true) H
theorem su_isi (ok : XOk c G fr X) (gx : GX X.prog c G X.mg) (ge : GE c G) (hn : NmOk X nm slot) (hd1 : ∀ y, nm = some y → (y == ("__debug__" : Str)) = false ∧ (y == ("__classdict__" : Str)) = false) (hz : Zc cls d oe) (hf : ∃ vs, oe.data = .fields vs) {x y z : Str} (hy : isEx nm y = true) (hb : isBi G fr x "isinstance" = true) (hg : isGl fr z = true) {j : Nat} {xj : ExcI} (hx : G.names.lookup z = some (.exc j)) (hj : G.excs[j]? = some xj) {p p2 p3 pos : Pos} :
    PE (X.suite a ((a, oe) :: pn)) (.Call (.Name x p) [.Name y p2, .Name z p3] [] pos) (fun τ H Q => ∃ n xi fs σ S F ρ, SuAt c G slot a cls d n xi fs σ S τ F H ρ ∧ xi.anc.contains j = true ∧ Q (.bl true) H) := by
  obtain ⟨rfl, g1, g2, g3⟩ := isBi_ok ok hb (by decide)
  obtain ⟨gz, gd⟩ := isGl_gl ok hg
  have he := su_var (c := c) (G := G) (cls := cls) (d := d) (oe := oe) (a := a) (pn := pn) (p := p2) (f := fun _ _ => none) hn hd1 hy
  have h2 : PE (X.suite a ((a, oe) :: pn)) (.Name z p3) (tC (.ref (c.ex j))) := pe_glob (X := X.suite a ((a, oe) :: pn)) gz (gx.nm z j xj hx hj) (show RelV (.ref (c.ex j)) (.ref (c.ex j)) from rfl) gd
  have ha : PA (X.suite a ((a, oe) :: pn)) [.Name y p2, .Name z p3] _ := pa_cons he (pa_cons h2 pa_nil (starEach_plain rfl)) (starEach_plain rfl)
  refine ⟨fun pins s τ H Q I h => ?_⟩
  obtain ⟨n, xi, fs, σ, S, F, ρ, u, hc, q⟩ := h
  refine wpAny_Call_Name_kw (ld_blt I g1 g3 (show bootBuiltins ("isinstance" : Str) = some (.builtin "isinstance") by decide +kernel) ?_ (by decide) g2)
  refine PyProof.Rows.callWith_builtin1 (thn (ha.run pos pins s τ H (fun vs H1 => vs = [.ref a, .ref (c.ex j)] ∧ H1 = H) I ⟨n, xi, fs, σ, S, F, ρ, u, rfl, rfl⟩) fun us s1 ⟨vs, H1, I1, r1, e1, e2⟩ => ?_) (starEach_plain rfl) (backTo_plain rfl)
  subst e1 e2
  obtain ⟨u1, u2, rfl, r1, r2⟩ := vals2 r1
  obtain rfl : u1 = Value.ref a := r1
  obtain rfl : u2 = Value.ref (c.ex j) := r2
  obtain ⟨ha2, _⟩ := I1.pin (a, oe) (List.mem_append_left _ List.mem_cons_self)
  obtain ⟨ws, hdat⟩ := hf
  have ux := u.xi
  obtain ⟨e1, e2⟩ := u.ex
  have kin : c.K.In s1.heap := ok.K ▸ I1.kIn
  have fin : ∀ od, (match oe.dict, od with | some dx, some o => s1.heap.get? dx = some o | none, none => True | _, _ => False) → wpAny (model X.prog X.w) (X.A.mark (some (.ref a))) (call (.builtin "isinstance") [.ref a, .ref (c.ex j)]) (EP (X.suite a ((a, oe) :: pn)) pins τ Q) (fun _ _ => False) s1 := fun od hod => by
    have J : PySem.W.InstAt s1.heap a oe (c.ex n) od := ⟨ha2, by rw [hz.1]; exact e1, by unfold PySem.W.notCls; rw [hdat], hod⟩
    exact PySem.W.kia_one (PySem.W.kitx_exc (ge.cl n xi ux) (ge.ga n xi ux) (ge.gg n xi ux) (ge.sb n xi ux) (ge.ca n xi ux) ge.hn ge.tk (ge.mo n xi ux)) kin J (ge.kit n j xi xj ux hj hc) (fun z => nomatch z) fun tk => ⟨.bl true, H1, I1.tok tk, rfl, q⟩
  cases hfs : fs with
  | nil =>
    rw [hfs] at e2
    exact fin none (by rw [hz.2, e2]; trivial)
  | cons y0 ys =>
    rw [hfs] at e2
    obtain ⟨dd, vs, e3, e4, e5, e6⟩ := e2
    have hxd : ObjOk X.prog X.w H1 s1.heap dd (.xd ((c.exf n).zip vs)) := I1.hok dd _ e4
    obtain ⟨mA, hns, hro⟩ := hxd
    obtain ⟨od, ho, hlk⟩ := lookIn_ns hns
    exact fin (some od) (by rw [hz.2, e3]; exact ho)
theorem su_isi' (ok : XOk c G fr X) (gx : GX X.prog c G X.mg) (ge : GE c G) (hn : NmOk X nm slot) (hd1 : ∀ y, nm = some y → (y == ("__debug__" : Str)) = false ∧ (y == ("__classdict__" : Str)) = false) (hz : Zc cls d oe) (hf : ∃ vs, oe.data = .fields vs) {x y z : Str} {p p2 p3 pos : Pos} :
    PE (X.suite a ((a, oe) :: pn)) (.Call (.Name x p) [.Name y p2, .Name z p3] [] pos) (fun τ H Q => ∃ n xi fs σ S F ρ, SuAt c G slot a cls d n xi fs σ S τ F H ρ ∧ suI G fr nm xi x y z = true ∧ Q (.bl true) H) := by
  by_cases h1 : (isEx nm y && isBi G fr x "isinstance" && isGl fr z) = true
  case neg => exact ⟨fun pins s τ H Q I h => by
    obtain ⟨n, xi, fs, σ, S, F, ρ, u, hc, q⟩ := h
    unfold suI at hc
    rw [Bool.and_eq_true] at hc
    exact absurd hc.1 h1⟩
  have h1' := h1
  simp only [Bool.and_eq_true] at h1'
  obtain ⟨⟨hy, hb⟩, hg⟩ := h1'
  have none_ : (∀ xi : ExcI, suI G fr nm xi x y z = false) → PE (X.suite a ((a, oe) :: pn)) (.Call (.Name x p) [.Name y p2, .Name z p3] [] pos) (fun τ H Q => ∃ n xi fs σ S F ρ, SuAt c G slot a cls d n xi fs σ S τ F H ρ ∧ suI G fr nm xi x y z = true ∧ Q (.bl true) H) := fun hh => ⟨fun pins s τ H Q I h => by
    obtain ⟨n, xi, fs, σ, S, F, ρ, u, hc, q⟩ := h
    rw [hh] at hc
    cases hc⟩
  cases hx : G.names.lookup z with
  | none => exact none_ fun xi => by unfold suI; rw [h1, hx]; rfl
  | some gv =>
    cases gv with
    | fn i => exact none_ fun xi => by unfold suI; rw [h1, hx]; rfl
    | cls i => exact none_ fun xi => by unfold suI; rw [h1, hx]; rfl
    | val i => exact none_ fun xi => by unfold suI; rw [h1, hx]; rfl
    | exc j =>
      cases hj : G.excs[j]? with
      | none => exact none_ fun xi => by unfold suI; rw [h1, hx]; simp [hj]
      | some xj =>
        refine je_imp (su_isi ok gx ge hn hd1 hz hf hy hb hg hx hj) fun τ H Q h => ?_
        obtain ⟨n, xi, fs, σ, S, F, ρ, u, hc, q⟩ := h
        refine ⟨n, xi, fs, σ, S, F, ρ, u, ?_, q⟩
        unfold suI at hc
        rw [h1, hx] at hc
        simp only [Bool.true_and, hj, Option.isSome_some] at hc
        exact hc
theorem su_const {k : Const} {j : Nat} {pos : Pos} {Y : Cx} : PE Y (.Constant k j pos) (fun _ H Q => ∃ x, constD k = some x ∧ ∀ v, (∀ F, Rep c F v x) → Q v H) := by
  have key : ∀ (v : V) (x : D), constD k = some x → (∀ F, Rep c F v x) → (∀ pins s τ H Q, Inv Y pins τ H s → Q v H → wpAny (model Y.prog Y.w) Y.A (eval (.Constant k j pos) Y.env) (EP Y pins τ Q) Y.xe s) → PE Y (.Constant k j pos) (fun _ H Q => ∃ x, constD k = some x ∧ ∀ v, (∀ F, Rep c F v x) → Q v H) := by
    intro v x e r h
    refine ⟨fun pins s τ H Q I q => h pins s τ H Q I ?_⟩
    obtain ⟨y, hy, q⟩ := q
    rw [e] at hy
    cases hy
    exact q v r
  have no : constD k = none → PE Y (.Constant k j pos) (fun _ H Q => ∃ x, constD k = some x ∧ ∀ v, (∀ F, Rep c F v x) → Q v H) := fun hk => ⟨fun pins s τ H Q I q => by
    obtain ⟨y, hy, q⟩ := q
    rw [hk] at hy
    cases hy⟩
  cases k with
  | none => exact key .non .non rfl (fun _ => .non) fun pins s τ H Q I h => pe_non.run pins s τ H Q I h
  | bool b => exact key (.bl b) (.bl b) rfl (fun _ => .bl b) fun pins s τ H Q I h => pe_bl.run pins s τ H Q I h
  | int i => exact key (.int i) (.int i) rfl (fun _ => .int i) fun pins s τ H Q I h => pe_int.run pins s τ H Q I h
  | str z => exact key (.str z) (.str z) rfl (fun _ => .str z) fun pins s τ H Q I h => pe_str.run pins s τ H Q I h
  | _ => exact no rfl
theorem su_bad {e : Expr} {f : ExcI → List D → Option D} (hb : ∀ xi fs, f xi fs = none) : PE (X.suite a ((a, oe) :: pn)) e (tU c G slot a cls d f) := ⟨fun pins s τ H Q I h => by
    obtain ⟨n, xi, fs, σ, S, F, ρ, u, x, hx, q⟩ := h
    rw [hb] at hx
    cases hx⟩
theorem su_atom (ok : XOk c G fr X) (ge : GE c G) (hn : NmOk X nm slot) (hd1 : ∀ y, nm = some y → (y == ("__debug__" : Str)) = false ∧ (y == ("__classdict__" : Str)) = false) (hz : Zc cls d oe) (hf : ∃ vs, oe.data = .fields vs) (e : Expr) :
    PE (X.suite a ((a, oe) :: pn)) e (tU c G slot a cls d fun xi fs => suB nm xi fs e) := by
  unfold suB
  split
  · rename_i k j pos
    refine je_imp (su_const (c := c)) fun τ H Q h => ?_
    obtain ⟨n, xi, fs, σ, S, F, ρ, u, x, hx, q⟩ := h
    exact ⟨x, hx, fun v hv => q v (hv F)⟩
  · rename_i y p f pos
    by_cases hy : isEx nm y = true
    · refine je_imp (su_fld (pos := pos) (p := p) ok.K ge hn hd1 hz hf hy) fun τ H Q h => ?_
      obtain ⟨n, xi, fs, σ, S, F, ρ, u, x, hx, q⟩ := h
      have hx : (if isEx nm y = true then fldA xi.flds fs f else none) = some x := hx
      rw [if_pos hy] at hx
      exact ⟨n, xi, fs, σ, S, F, ρ, u, x, hx, q⟩
    · exact su_bad fun xi fs => if_neg hy
  · exact su_bad fun xi fs => rfl
/-- an expression of a suite -/
theorem su_expr (ok : XOk c G fr X) (gx : GX X.prog c G X.mg) (ge : GE c G) (hn : NmOk X nm slot) (hd1 : ∀ y, nm = some y → (y == ("__debug__" : Str)) = false ∧ (y == ("__classdict__" : Str)) = false) (hz : Zc cls d oe) (hf : ∃ vs, oe.data = .fields vs) (e : Expr) :
    PE (X.suite a ((a, oe) :: pn)) e (tU c G slot a cls d fun xi fs => suA G fr nm xi fs e) := by
  unfold suA
  split
  · rename_i x p y p2 z p3 pos
    refine je_imp (su_isi' ok gx ge hn hd1 hz hf) fun τ H Q h => ?_
    obtain ⟨n, xi, fs, σ, S, F, ρ, u, v, hx, q⟩ := h
    dsimp only at hx
    split at hx
    · rename_i hi
      cases hx
      exact ⟨n, xi, fs, σ, S, F, ρ, u, hi, q _ (.bl true)⟩
    · cases hx
  · rename_i x p y p2 z p3 p4 b e pos
    have ht := pt_truth (su_isi' (c := c) (cls := cls) (d := d) (p := p) (p2 := p2) (p3 := p3) (pos := p4) ok gx ge hn hd1 hz hf (x := x) (y := y) (z := z) (oe := oe) (a := a) (pn := pn)) (fun _ => rfl)
    refine je_imp (pe_ifExp ht (su_atom ok ge hn hd1 hz hf b) (tb := fun _ _ _ => False) ⟨fun pins s τ H Q I h => h.elim⟩) fun τ H Q h => ?_
    obtain ⟨n, xi, fs, σ, S, F, ρ, u, v, hx, q⟩ := h
    dsimp only at hx
    split at hx
    · rename_i hi
      refine ⟨n, xi, fs, σ, S, F, ρ, u, hi, true, ?_, ?_⟩
      · rfl
      · exact iteT ⟨n, xi, fs, σ, S, F, ρ, u, v, hx, q⟩
    · cases hx
  · exact su_atom ok ge hn hd1 hz hf _
end
end Ev
set_option Elab.async false
set_option linter.all false
set_option maxRecDepth 100000
set_option maxHeartbeats 4000000
namespace Ev
open PySem PySem.Spec PyProof.Rows L2

/-! ## try, evaluated -/
def slotOf (fr : Fr) (nm : Option Str) : Option Nat := nm.bind (idx fr.N)
def nmOk (fr : Fr) : Option Str → Bool
  | none => true
  | some y => decide (fr.sc.names.lookup y = some .local) && (idx fr.N y).isSome && decide (y ≠ "__debug__") && decide (y ≠ "__classdict__")
def unE : Option Nat → Env → Env
  | none, σ => σ
  | some i, σ => σ.set i none
def slotIn : Option Nat → Env → Bool
  | none, _ => true
  | some i, σ => decide (i < σ.length)
def suS (G : Gm) (fr : Fr) (nm : Option Str) (xi : ExcI) (fs : List D) (y : Str) (e : Expr) (σ : Env) (S : Store) : SOut := match suE G fr nm xi fs e, idx fr.N y with
  | some rv, some i => if slotIn (slotOf fr nm) σ then .nx (unE (slotOf fr nm) ((unE (slotOf fr nm) σ).set i (some (keepW (fr.cells.contains y) rv S).1))) (keepW (fr.cells.contains y) rv S).2 else .bad
  | _, _ => .bad
def excIx (G : Gm) (x : Str) : Option Nat := match G.names.lookup x with
  | some (.exc j) => if (G.excs[j]?).isSome then some j else none
  | _ => none
def hdOk (G : Gm) (fr : Fr) : ExceptHandler → Bool
  | .ExceptHandler (some (.Name x _)) nm [.Assign [.Name y _] e _] _ => isGl fr x && nmOk fr nm && isLoc fr y && (idx fr.N y).isSome && noComp e && (excIx G x).isSome
  | _ => false
def hdS (G : Gm) (fr : Fr) : List ExceptHandler → ExcI → Nat → List D → Env → Store → SOut
  | [], _, n, fs, σ, S => .exc n fs σ S
  | .ExceptHandler (some (.Name x _)) nm [.Assign [.Name y _] e _] _ :: r, xi, n, fs, σ, S => match excIx G x with
    | some j => if xi.anc.contains j then suS G fr nm xi fs y e σ S else hdS G fr r xi n fs σ S
    | none => .bad
  | _, _, _, _, _, _ => .bad
def tryS (G : Gm) (R : Rec) (fr : Fr) (body : List Stmt) (hds : List ExceptHandler) (σ : Env) (S : Store) : SOut :=
  if fr.cap.isEmpty && hds.all (hdOk G fr) && !hds.isEmpty then match R.B fr σ body S with
    | .exc n fs σ' S' => match G.excs[n]? with
      | some xi => hdS G fr hds xi n fs σ' S'
      | none => .bad
    | o => o
  else .bad

def tSu (c : Cs) (G : Gm) (fr : Fr) (nm : Option Str) (y : Str) (e : Expr) (a : Addr) (cls : Value) (d : Option Addr) : TS := fun D τ H => ∃ n xi fs σ S F ρ, SuAt c G (slotOf fr nm) a cls d n xi fs σ S τ F H ρ ∧ ∃ rv i, suE G fr nm xi fs e = some rv ∧ idx fr.N y = some i ∧
  ∀ v F2 H2 ρ2, Step F ρ H F2 ρ2 H2 → At c (σ.set i (some (keepW (fr.cells.contains y) rv S).1)) (keepW (fr.cells.contains y) rv S).2 (τ.set i (some v)) F2 H2 ρ2 → D.nx (τ.set i (some v)) H2
/-- what an expression of a suite gives -/
def tUE (c : Cs) (G : Gm) (slot : Option Nat) (a : Addr) (cls : Value) (d : Option Addr) (f : ExcI → List D → Option RV) : TE := fun τ H Q => ∃ n xi fs σ S F ρ, SuAt c G slot a cls d n xi fs σ S τ F H ρ ∧ ∃ x, f xi fs = some x ∧ ∀ v F' H' ρ', Step F ρ H F' ρ' H' → SRep c F' H' ρ' S → VRep c F' H' ρ' H v x → Q v H'
section
variable {c : Cs} {G : Gm} {fr : Fr} {X : Cx} {a : Addr} {oe : Obj} {cls : Value} {d : Option Addr} {pn : List (Addr × Obj)} {nm : Option Str} {slot : Option Nat} {R : Rec} {Wx : WX}
theorem nmOk_ok (ok : XOk c G fr X) (h : nmOk fr nm = true) : NmOk X nm (slotOf fr nm) ∧ ∀ y, nm = some y → (y == ("__debug__" : Str)) = false ∧ (y == ("__classdict__" : Str)) = false := by
  cases nm with
  | none => exact ⟨True.intro, fun y e => by cases e⟩
  | some y =>
    unfold nmOk at h
    simp only [Bool.and_eq_true, decide_eq_true_eq] at h
    obtain ⟨⟨⟨h1, h2⟩, h3⟩, h4⟩ := h
    obtain ⟨i, hi⟩ := Option.isSome_iff_exists.mp h2
    refine ⟨?_, fun z e => ?_⟩
    · show NmOk X (some y) (idx fr.N y)
      rw [hi]
      refine ⟨by rw [ok.N]; exact idx_get hi, ?_⟩
      show X.env.scope.names.lookup y = _
      rw [ok.sc]
      exact h1
    · cases e
      exact ⟨by simpa using h3, by simpa using h4⟩
theorem su_rv (ok : XOk c G fr X) (gx : GX X.prog c G X.mg) (ge : GE c G) (hn : NmOk X nm slot) (hd1 : ∀ y, nm = some y → (y == ("__debug__" : Str)) = false ∧ (y == ("__classdict__" : Str)) = false) (hz : Zc cls d oe) (hf : ∃ vs, oe.data = .fields vs) (e : Expr) :
    PE (X.suite a ((a, oe) :: pn)) e (tUE c G slot a cls d fun xi fs => suE G fr nm xi fs e) := by
  unfold suE
  split
  · rename_i e1 e2 pos
    have p1 := su_expr (c := c) (cls := cls) (d := d) (pn := pn) (oe := oe) (a := a) ok gx ge hn hd1 hz hf e1
    have p2 := su_expr (c := c) (cls := cls) (d := d) (pn := pn) (oe := oe) (a := a) ok gx ge hn hd1 hz hf e2
    by_cases hs1 : isStar e1 = true
    · cases e1 with
      | Starred z p =>
        refine ⟨fun pins s τ H Q I h => ?_⟩
        obtain ⟨n, xi, fs, σ, S, F, ρ, u, v, hx, q⟩ := h
        cases hx
      | _ => cases hs1
    by_cases hs2 : isStar e2 = true
    · cases e2 with
      | Starred z p =>
        refine ⟨fun pins s τ H Q I h => ?_⟩
        obtain ⟨n, xi, fs, σ, S, F, ρ, u, v, hx, q⟩ := h
        dsimp only at hx
        split at hx
        · rename_i h2
          cases h2
        · cases hx
      | _ => cases hs2
    have hs1 : isStar e1 = false := by simpa using hs1
    have hs2 : isStar e2 = false := by simpa using hs2
    refine je_imp (pe_lst (pa_cons p1 (pa_cons p2 pa_nil (starEach_plain hs2)) (starEach_plain hs1))) fun τ H Q h => ?_
    obtain ⟨n, xi, fs, σ, S, F, ρ, u, v, hx, q⟩ := h
    dsimp only at hx
    cases h1 : suA G fr nm xi fs e1 with
    | none =>
      rw [h1] at hx
      cases hx
    | some x1 =>
      cases h2 : suA G fr nm xi fs e2 with
      | none =>
        rw [h1, h2] at hx
        cases hx
      | some x2 =>
        rw [h1, h2] at hx
        cases hx
        refine ⟨n, xi, fs, σ, S, F, ρ, u, x1, h1, fun v1 r1 => ⟨n, xi, fs, σ, S, F, ρ, u, x2, h2, fun v2 r2 => ?_⟩⟩
        refine ⟨by rw [← line_eq]; show 2 ≤ line; decide, new_list u.at_.st (.cons r1 (.cons r2 .nil)) q⟩
  · rename_i hne
    refine je_imp (su_expr ok gx ge hn hd1 hz hf e) fun τ H Q h => ?_
    obtain ⟨n, xi, fs, σ, S, F, ρ, u, v, hx, q⟩ := h
    dsimp only at hx
    cases hy : suA G fr nm xi fs e with
    | none =>
      rw [hy] at hx
      cases hx
    | some y =>
      rw [hy] at hx
      cases hx
      exact ⟨n, xi, fs, σ, S, F, ρ, u, y, hy, fun v r => q v F H ρ (Step.refl _ _ _) u.at_.st (.d r)⟩
/-- the suite's statement -/
theorem su_stmt (ok : XOk c G fr X) (gx : GX X.prog c G X.mg) (ge : GE c G) (hn : nmOk fr nm = true) (hz : Zc cls d oe) (hf : ∃ vs, oe.data = .fields vs) {y : Str} {e : Expr} {p pos : Pos} (hl : isLoc fr y = true) (hi : (idx fr.N y).isSome = true) (hc : noComp e = true) :
    PSs (X.suite a ((a, oe) :: pn)) [.Assign [.Name y p] e pos] (tSu c G fr nm y e a cls d) := by
  obtain ⟨n1, n2⟩ := nmOk_ok ok hn
  obtain ⟨i, hi⟩ := Option.isSome_iff_exists.mp hi
  have hfn : (X.suite a ((a, oe) :: pn)).fn y = true ∨ (X.suite a ((a, oe) :: pn)).env.scope.names.lookup y = some .local := by
    rcases ok.fnm y with h | h | h
    · exact .inl h
    · exact .inr h
    · rw [hl] at h
      cases h
  refine jss_imp (pss_one (ps_set (X := X.suite a ((a, oe) :: pn)) (i := i) ok.nd (by rw [ok.N]; exact idx_get hi) (isLoc_loc ok hl) (su_rv ok gx ge n1 n2 hz hf e) (noComp_swaps hc) hfn)) fun D τ H h => ?_
  obtain ⟨n, xi, fs, σ, S, F, ρ, u, rv, j, hx, hj, q⟩ := h
  rw [hi] at hj
  cases hj
  refine ⟨n, xi, fs, σ, S, F, ρ, u, rv, hx, fun v F1 H1 ρ1 st sr vr => ?_⟩
  obtain ⟨F2, ρ2, s1, s2, s3, s4, s5⟩ := keepW_ok st sr vr (fr.cells.contains y)
  exact q v F2 H1 ρ2 s3 ⟨(u.at_.env.mono s3.frz s3.pre).set s5 i, s4⟩
/-! ### the clauses -/
def hsOf (c : Cs) (G : Gm) (fr : Fr) : List ExceptHandler → List HS
  | [] => []
  | .ExceptHandler (some (.Name x _)) nm [.Assign [.Name y _] e _] _ :: r => ⟨.ref (c.ex ((excIx G x).getD 0)), slotOf fr nm, tSu c G fr nm y e⟩ :: hsOf c G fr r
  | _ :: r => hsOf c G fr r
theorem excIx_ok {x : Str} {j : Nat} (h : excIx G x = some j) : G.names.lookup x = some (.exc j) ∧ ∃ xj, G.excs[j]? = some xj := by
  unfold excIx at h
  split at h
  · rename_i j' hx
    split at h
    · rename_i hs
      cases h
      exact ⟨hx, Option.isSome_iff_exists.mp hs⟩
    · cases h
  · cases h
theorem hs_ok (ok : XOk c G fr X) (gx : GX X.prog c G X.mg) (ge : GE c G) : ∀ {hds : List ExceptHandler}, hds.all (hdOk G fr) = true → HsOk X hds (hsOf c G fr hds)
  | [], _ => .nil
  | h :: r, ha => by
    rw [List.all_cons, Bool.and_eq_true] at ha
    obtain ⟨h1, h2⟩ := ha
    have ih := hs_ok ok gx ge h2
    unfold hdOk at h1
    split at h1
    · rename_i x np nm y p e pos pos'
      simp only [Bool.and_eq_true] at h1
      obtain ⟨⟨⟨⟨⟨g1, g2⟩, g3⟩, g4⟩, g5⟩, g6⟩ := h1
      obtain ⟨j, hj⟩ := Option.isSome_iff_exists.mp g6
      obtain ⟨e1, xj, e2⟩ := excIx_ok hj
      obtain ⟨k1, k2⟩ := isGl_gl ok g1
      unfold hsOf
      refine .cons ⟨k1, k2, .inl ?_⟩ (nmOk_ok ok g2).1 (fun a oe cls d pn hz hf => su_stmt ok gx ge g2 hz hf g3 g4 g5) ih
      rw [hj]
      exact gx.nm x j xj e1 e2
    · cases h1
theorem ent_rep {F : Hp} {ρ : List Addr} {τ : L2.St} {σ : Env} (h : ERep c F ρ τ σ) (slot : Option Nat) (a : Addr) : ERep c F ρ (entS slot a τ) (unE slot σ) := by
  cases slot with
  | none => exact h
  | some i =>
    refine ⟨by show (τ.set i _).length = (σ.set i none).length; rw [List.length_set, List.length_set, h.1], fun j w' e => ?_⟩
    have e : (σ.set i none)[j]? = some (some w') := e
    show ∃ v, (τ.set i (some (.ref a)))[j]? = some (some v) ∧ _
    by_cases hj : i = j
    · subst hj
      by_cases hl : i < σ.length
      · rw [List.getElem?_set_self hl] at e
        cases e
      · rw [List.getElem?_eq_none (by rw [List.length_set]; omega)] at e
        cases e
    · rw [List.getElem?_set_ne hj] at e
      obtain ⟨u, e1, r⟩ := h.2 j w' e
      exact ⟨u, by rw [List.getElem?_set_ne hj]; exact e1, r⟩
theorem hd_run (hK : X.K = c.K) (ge : GE c G) {De : Ends} {n : Nat} {xi : ExcI} {fs : List D} {σ : Env} {S : Store} {τ : L2.St} {F H : Hp} {ρ : List Addr} (hx : G.excs[n]? = some xi) (at_ : At c σ S τ F H ρ) (ea : ExcAt c F H n fs cls d) :
    ∀ {hds : List ExceptHandler}, hds.all (hdOk G fr) = true → QS c Wx F ρ H De (hdS G fr hds xi n fs σ S) → wTry X.K Wx De (hsOf c G fr hds) cls d τ H
  | [], _, q => q τ F H ρ cls d (Step.refl _ _ _) at_ ea
  | h :: r, ha, q => by
    rw [List.all_cons, Bool.and_eq_true] at ha
    obtain ⟨h1, h2⟩ := ha
    have ih := fun q => hd_run hK ge (De := De) hx at_ ea h2 q
    unfold hdOk at h1
    split at h1
    · rename_i x np nm y p e pos pos'
      simp only [Bool.and_eq_true] at h1
      obtain ⟨⟨⟨⟨⟨g1, g2⟩, g3⟩, g4⟩, g5⟩, g6⟩ := h1
      obtain ⟨j, hj⟩ := Option.isSome_iff_exists.mp g6
      obtain ⟨e1, xj, e2⟩ := excIx_ok hj
      unfold hdS at q
      rw [hj] at q
      have q : QS c Wx F ρ H De (if xi.anc.contains j = true then suS G fr nm xi fs y e σ S else hdS G fr r xi n fs σ S) := q
      unfold hsOf
      show ∃ b, PySem.W.exmOne X.K cls (.ref (c.ex ((excIx G x).getD 0))) = some b ∧ _
      rw [hj]
      refine ⟨xi.anc.contains j, by rw [ea.1, hK]; exact ge.exm n j xi xj hx e2, fun hb a na => ?_, fun hb => ?_⟩
      · rw [if_pos hb] at q
        unfold suS at q
        split at q
        · rename_i rv i k1 k2
          split at q
          · rename_i hsl
            refine ⟨n, xi, fs, unE (slotOf fr nm) σ, S, F, ρ, ⟨⟨ent_rep at_.env _ _, at_.st⟩, ea, hx, fun l hs => ?_⟩, rv, i, k1, k2, fun v F2 H2 ρ2 st a2 => ?_⟩
            · show (entS (slotOf fr nm) a τ)[l]? = _
              rw [hs] at hsl ⊢
              have hlt : l < σ.length := of_decide_eq_true hsl
              show (τ.set l (some (.ref a)))[l]? = _
              rw [List.getElem?_set_self (by rw [at_.env.1]; exact hlt)]
            · cases hso : slotOf fr nm with
              | none =>
                rw [hso] at q a2
                exact q _ F2 H2 ρ2 st a2
              | some l =>
                rw [hso] at q a2
                exact q _ F2 H2 ρ2 st ⟨a2.env.unset l, a2.st⟩
          · exact q.elim
        · exact q.elim
      · rw [if_neg (by rw [hb]; exact Bool.false_ne_true)] at q
        exact ih q
    · cases h1
/-- try -/
theorem js_try (ok : XOk c G fr X) (gx : GX X.prog c G X.mg) (ge : GE c G) (tk : Takes X Wx) (sf : fr.cap.isEmpty = true → X.stack = X.env :: X.outer ∧ X.env.frame = some X.env.locals) {body : List Stmt} {hds : List ExceptHandler} {pos : Pos}
    (hB : ∀ (W : WX) (pn : List (Addr × Obj)) (xe : Value → Shared → Prop), Takes (X.tr pn xe) W → PassesOwn (model X.prog X.w) X.A X.env xe → PSs (X.tr pn xe) body (tS c W fun σ S => R.B fr σ body S)) :
    PS X (.Try body hds [] [] pos) (tS c Wx fun σ S => tryS G R fr body hds σ S) := by
  by_cases hg : (fr.cap.isEmpty && hds.all (hdOk G fr) && !hds.isEmpty) = true
  case neg =>
    have : (fun σ S => tryS G R fr body hds σ S) = fun _ _ => SOut.bad := by funext σ S; unfold tryS; rw [if_neg hg]
    rw [this]
    exact js_bad
  have hg' := hg
  simp only [Bool.and_eq_true] at hg'
  obtain ⟨⟨g1, g2⟩, g3⟩ := hg'
  obtain ⟨s1, s2⟩ := sf g1
  cases hds with
  | nil => cases g3
  | cons h0 hds =>
    refine js_imp (ps_try (tb := fun W => tS c W fun σ S => R.B fr σ body S) s1 s2 ok.nd tk hB (hs_ok ok gx ge g2)) fun De τ H h => ?_
    obtain ⟨σ, S, F, ρ, a, q⟩ := h
    have q : QS c Wx F ρ H De (tryS G R fr body (h0 :: hds) σ S) := q
    unfold tryS at q
    rw [if_pos hg] at q
    refine ⟨σ, S, F, ρ, a, ?_⟩
    show QS c _ F ρ H De (R.B fr σ body S)
    cases ho : R.B fr σ body S with
    | exc n fs σ' S' =>
      rw [ho] at q
      intro τ' F' H' ρ' cls d st a' ea
      cases hx : G.excs[n]? with
      | none =>
        have q : QS c Wx F ρ H De (match G.excs[n]? with
          | some xi => hdS G fr (h0 :: hds) xi n fs σ' S'
          | none => .bad) := q
        rw [hx] at q
        exact q.elim
      | some xi =>
        have q : QS c Wx F ρ H De (match G.excs[n]? with
          | some xi => hdS G fr (h0 :: hds) xi n fs σ' S'
          | none => .bad) := q
        rw [hx] at q
        exact hd_run ok.K ge hx a' ea g2 (QS.later st q)
    | nx _ _ => rw [ho] at q; exact q
    | rt _ _ => rw [ho] at q; exact q
    | bk _ _ => rw [ho] at q; exact q
    | ct _ _ => rw [ho] at q; exact q
    | bad => rw [ho] at q; exact q
end
end Ev
set_option linter.all false
set_option maxHeartbeats 2000000
namespace Ev
open PySem L2

/-! ## list comprehensions -/
def wipeE (σ : Env) : List Nat → Env
  | [] => σ
  | v :: vs => (wipeE σ vs).set v none
/-- the frame of a comprehension -/
def frC (fr : Fr) (scope : Scope) : Fr := ⟨fr.N, relS scope fr.sc, [], "" :: (scope.names.filter fun y => y.2 == .free).map (·.1)⟩
def lcS (g : D → Env → Option Env) (T : Env → Store → Out Bool) (E : Env → Store → Out RV) (cur : Store → Nat → Option (Option D)) (σ : Env) : Nat → Nat → List D → Store → Out RV
  | 0, _, _, _ => .bad
  | n + 1, i, acc, S => match cur S i with
    | none => .bad
    | some none => .ok (.own acc) S
    | some (some d) => match g d σ with
      | none => .bad
      | some σ1 => match T σ1 S with
        | .ok true S1 => match E σ1 S1 with
          | .ok rv S2 => match rv.toW with
            | .d x => if acc.length < line then lcS g T E cur σ n (i + 1) (acc ++ [x]) S2 else .bad
            | _ => .bad
          | _ => .bad
        | .ok false S1 => lcS g T E cur σ n (i + 1) acc S1
        | _ => .bad
mutual
theorem slots_N {fr fr' : Fr} (h : fr'.N = fr.N) : ∀ t : Expr, slotsOf fr' t = slotsOf fr t
  | .Tuple ts _ _ => by
    unfold slotsOf
    exact slots_Ns h ts
  | .Name x _ => by
    unfold slotsOf
    rw [h]
  | .Constant .. | .Attribute .. | .Subscript .. | .Starred .. | .List .. | .Call .. | .BinOp .. | .UnaryOp .. | .BoolOp .. | .Compare .. | .IfExp .. | .Lambda .. | .Dict .. | .Set .. | .ListComp .. | .SetComp .. | .DictComp .. | .GeneratorExp .. | .Slice .. | .JoinedStr .. | .FormattedValue .. | .NamedExpr .. | .Await .. | .Yield .. | .YieldFrom .. => rfl
theorem slots_Ns {fr fr' : Fr} (h : fr'.N = fr.N) : ∀ ts : List Expr, slotsOf.slotsOfs fr' ts = slotsOf.slotsOfs fr ts
  | [] => rfl
  | t :: ts => by
    show slotsOf fr' t ++ slotsOf.slotsOfs fr' ts = slotsOf fr t ++ slotsOf.slotsOfs fr ts
    rw [slots_N h t, slots_Ns h ts]
end
def WF : WX := fun _ _ _ _ => False
section
variable {c : Cs} {G : Gm} {fr : Fr} {X : Cx} {Xw : XW} {R : Rec}
theorem erep_wipe {F : Hp} {ρ : List Addr} {τ : L2.St} {σ : Env} (h : ERep c F ρ τ σ) : ∀ vs : List Nat, ERep c F ρ (wipe τ vs) (wipeE σ vs)
  | [] => h
  | v :: vs => (erep_wipe h vs).unset v
theorem wipe_get {τ : L2.St} {i : Nat} : ∀ {vs : List Nat}, (wipe τ vs)[i]? = if i ∈ vs then (if i < τ.length then some none else none) else τ[i]?
  | [] => by simp [wipe]
  | v :: vs => by
    unfold wipe
    rw [List.getElem?_set, wipe_length, wipe_get (vs := vs)]
    by_cases hi : v = i
    · subst hi
      simp
    · rw [if_neg hi]
      have : (i ∈ v :: vs) ↔ i ∈ vs := by
        rw [List.mem_cons]
        exact ⟨fun h => h.elim (fun e => absurd e.symm hi) id, .inr⟩
      simp only [this]
theorem kept_wipe {τ τ' : L2.St} {ix vs : List Nat} (k : Kept ix (wipe τ vs) τ') (h : ∀ i ∈ ix, i ∈ vs) : wipe τ' vs = wipe τ vs := by
  have hl : τ'.length = τ.length := by rw [k.1, wipe_length]
  apply List.ext_getElem?
  intro i
  rw [wipe_get, wipe_get, hl]
  by_cases hi : i ∈ vs
  · rw [if_pos hi, if_pos hi]
  · rw [if_neg hi, if_neg hi, k.2 i (fun z => hi (h i z)), wipe_get, if_neg hi]
/-- what is told within the block -/
theorem blk_ok (ok : XOk c G fr X) {scope : Scope} {s : Shared} {H : Hp} {C : Addr} {cl : List (Str × Addr)} {fp : List Addr} (hu : ∀ y ∈ scope.names, scope.names.lookup y.1 = some y.2) :
    XOk c G (frC fr scope) (X.blk s H scope (compEnvC scope cl C X.env) fp) where
  N := ok.N
  sc := by
    show relabel scope X.env = relS scope fr.sc
    rw [← ok.sc]
    rfl
  K := ok.K
  nd := ok.nd
  calm := ok.calm
  hu := ok.hu
  glv := ok.glv
  bi := ok.bi
  fnm := fun x => by
    show (scope.names.lookup x == some NameKind.cell) = true ∨ (relS scope X.env.scope).names.lookup x = some .local ∨ isLoc (frC fr scope) x = false
    by_cases hl : isLoc (frC fr scope) x = true
    · unfold isLoc at hl
      simp only [Bool.and_eq_true, decide_eq_true_eq, Bool.not_eq_true'] at hl
      obtain ⟨⟨⟨h1, h2⟩, h3⟩, h4⟩ := hl
      have look : ∀ (l : List (Str × NameKind)) (k : NameKind), l.lookup x = some k → k ≠ .free → (l.map fun (n, k) => if (k == NameKind.free && fr.sc.kind == .function && fr.sc.names.lookup n == some .cell) then (n, NameKind.cell) else (n, k)).lookup x = some k := by
        intro l k
        induction l with
        | nil => intro h _; cases h
        | cons y l ih =>
          intro h hk
          obtain ⟨n, k'⟩ := y
          rw [List.lookup_cons] at h
          rw [List.map_cons]
          by_cases e : x == n
          · rw [e] at h
            have h : k' = k := Option.some.inj h
            subst h
            have : (k' == NameKind.free) = false := by cases k' <;> first | rfl | exact absurd rfl hk
            dsimp only
            rw [this, Bool.false_and, Bool.false_and, if_neg Bool.false_ne_true, List.lookup_cons, e]
          · have e : (x == n) = false := by simpa using e
            rw [e] at h
            have h := ih h hk
            dsimp only
            split <;> (rw [List.lookup_cons, e]; exact h)
      cases hx : scope.names.lookup x with
      | none =>
        exfalso
        have no : ∀ l : List (Str × NameKind), l.lookup x = none → (l.map fun (n, k) => if (k == NameKind.free && fr.sc.kind == .function && fr.sc.names.lookup n == some .cell) then (n, NameKind.cell) else (n, k)).lookup x = none := by
          intro l
          induction l with
          | nil => intro _; rfl
          | cons y l ih =>
            intro h
            obtain ⟨n, k'⟩ := y
            rw [List.lookup_cons] at h
            rw [List.map_cons]
            by_cases e : x == n
            · rw [e] at h
              cases h
            · have e : (x == n) = false := by simpa using e
              rw [e] at h
              have h := ih h
              dsimp only
              split <;> (rw [List.lookup_cons, e]; exact h)
        have h0 : (frC fr scope).sc.names.lookup x = none := no _ hx
        rw [h0] at h1
        cases h1
      | some k =>
        by_cases hk : k = .free
        · exfalso
          subst hk
          have hm : (x, NameKind.free) ∈ scope.names := by
            have : ∀ l : List (Str × NameKind), l.lookup x = some .free → (x, NameKind.free) ∈ l := by
              intro l
              induction l with
              | nil => intro h; cases h
              | cons y l ih =>
                intro h
                obtain ⟨n, k'⟩ := y
                rw [List.lookup_cons] at h
                by_cases e : x == n
                · rw [e] at h
                  have h : k' = .free := Option.some.inj h
                  rw [h, eq_of_beq e]
                  exact List.mem_cons_self ..
                · have e : (x == n) = false := by simpa using e
                  rw [e] at h
                  exact List.mem_cons_of_mem _ (ih h)
            exact this _ hx
          have : (frC fr scope).cap.contains x = true := by
            show ((("" : Str) :: (scope.names.filter fun y => y.2 == .free).map (·.1)).contains x) = true
            rw [List.contains_iff_mem]
            exact List.mem_cons_of_mem _ <| List.mem_map.mpr ⟨(x, .free), List.mem_filter.mpr ⟨hm, rfl⟩, rfl⟩
          rw [this] at h4
          cases h4
        · have h0 : (frC fr scope).sc.names.lookup x = some k := look _ k hx hk
          rw [h0] at h1
          cases k with
          | «local» => exact .inr (.inl (by rw [ok.sc]; exact h0))
          | cell => exact .inl rfl
          | _ => cases h1
    · exact .inr (.inr (by simpa using hl))
theorem srep_upd {F H : Hp} {ρ : List Addr} {S : Store} (sr : SRep c F H ρ S) {d : Addr} {o : HO} (h1 : F d = none) (h2 : d ∉ ρ) : SRep c F (upd H d o) ρ S := by
  refine ⟨fun q u h => ?_, sr.len, sr.nd, sr.nf, fun n cc a e1 e2 => (sr.cell n cc a e1 e2).keep (Same.refl _) (List.prefix_refl _) fun o h => ?_⟩
  · rw [upd_ne (show q ≠ d from fun e => by rw [e, h1] at h; cases h)]
    exact sr.sub q u h
  · rw [upd_ne (show a ≠ d from fun e => h2 (by rw [← e]; exact List.mem_of_getElem? e2))]
    exact h
theorem step_upd {F H F' H' : Hp} {ρ ρ' : List Addr} (st : Step F ρ H F' ρ' H') {d : Addr} {o : HO} (h1 : H d = none) : Step F ρ H F' ρ' (upd H' d o) :=
  ⟨st.frz, st.pre, st.newF, st.newR, fun q u h hn => by
    rw [upd_ne (show q ≠ d from fun e => by rw [e, h1] at h; cases h)]
    exact st.keep q u h hn, fun q u h => by
    by_cases e : q = d
    · exact ⟨o, by rw [e]; exact upd_same⟩
    · rw [upd_ne e]
      exact st.dom q u h⟩
/-- what is under way stays apart -/
theorem apart_step {F H F' H' : Hp} {ρ ρ' : List Addr} (st : Step F ρ H F' ρ' H') {d : Addr} {o : HO} (h0 : H d = some o) (h1 : F d = none) (h2 : d ∉ ρ) : H' d = some o ∧ F' d = none ∧ d ∉ ρ' := by
  refine ⟨st.keep d o h0 h2, ?_, fun h => ?_⟩
  · cases e : F' d with
    | none => rfl
    | some u =>
      rcases st.newF d u e with z | z
      · rw [h1] at z
        cases z
      · rw [h0] at z
        cases z
  · rcases st.newR d h with z | z
    · exact h2 z
    · rw [h0] at z
      cases z
theorem lc_read (ok : XOk c G fr X) {tg : Expr} {vs : List Nat} (hix : ((slotsOf fr tg).all fun i => vs.contains i) = true) {fi : Env → Store → Out Src} {ft : Env → Store → Out Bool} {fe : Env → Store → Out RV} {scope : Scope}
    (τ : L2.St) (H : Hp) (Q : VK) (h : tE c Xw (fun σ S => (fi σ S).bind fun src S1 => lcS (asgD (frC fr scope) tg) ft fe (curOf src) (wipeE σ vs) (turnsOf src) 0 [] S1) τ H Q) :
    tLc (tI c Xw fi) (tG c (slotsOf (frC fr scope) tg) (asgD (frC fr scope) tg)) (tB c (xwOf c WF) ft) (tE c (xwOf c WF) fe) vs τ H Q := by
  have six : ∀ t : Expr, slotsOf (frC fr scope) t = slotsOf fr t := by
    intro t
    exact slots_N (fr := fr) (fr' := frC fr scope) rfl t
  obtain ⟨σ, S, F, ρ, a, q⟩ := tE_un h
  refine ⟨σ, S, F, ρ, a, (QO.bind q).imp fun src S1 F1 H1 ρ1 st sr q0 J F2 s2 st2 sr2 so Dd hD => ?_⟩
  have q1 := q0 st2
  have dF : F2 Dd = none := fresh_F sr2 hD
  have dR : Dd ∉ ρ1 := sr2.fresh hD
  have e2 : ERep c F2 ρ1 (wipe τ vs) (wipeE σ vs) := erep_wipe (a.env.mono st2.frz st2.pre) _
  have hD0 : H Dd = none := st2.back _ hD
  refine ⟨fun i m H' => ∃ S' F' ρ' acc us, Step F2 ρ1 H1 F' ρ' H' ∧ SRep c F' H' ρ' S' ∧ H' Dd = some (.lst us) ∧ Reps c F' us acc ∧ Dd ∉ ρ' ∧ F' Dd = none ∧
    QO c Xw τ F2 ρ1 H1 (lcS (asgD (frC fr scope) tg) ft fe (curOf src) (wipeE σ vs) m i acc S') fun rv S' F' H' ρ' => ∀ v, VRep c F' H' ρ' H v rv → Q v H',
    ⟨turnsOf src, S1, F2, ρ1, [], [], step_upd (Step.refl _ _ _) hD, srep_upd sr2 dF dR, upd_same, .nil, dR, dF, q1⟩, ?_⟩
  rintro i m H' ⟨S', F', ρ', acc, us, s3, sr3, d1, r3, d2, d3, q3⟩
  obtain ⟨c1, c2⟩ := so F' H' ρ' S' i s3.frz s3.pre sr3
  cases m with
  | zero => exact q3.elim
  | succ m =>
    unfold lcS at q3
    split at q3
    · exact q3.elim
    · rename_i e
      exact .inl ⟨c1 e, QO.at q3 s3 sr3 _ ⟨Dd, us, rfl, d1, hD0, d3, d2, r3⟩⟩
    · rename_i d e
      obtain ⟨k1, k2⟩ := c2 d e
      split at q3
      · exact q3.elim
      · rename_i σ1 hgd
        refine .inr ⟨k1, _, fun H2 w => ⟨m, Nat.lt_succ_self _, w⟩, fun x H2 y => ?_⟩
        obtain ⟨F4, st4, sr4, rx⟩ := k2 x H2 y
        obtain ⟨d4, d5, d6⟩ := apart_step st4 d1 d3 d2
        have s4 := s3.trans st4
        refine ⟨wipeE σ vs, S', F4, ρ', d, σ1, ⟨e2.mono s4.frz s4.pre, sr4⟩, rx, hgd, fun τ' a' kp => ⟨kept_wipe kp fun i hi => ?_, ?_⟩⟩
        · rw [six] at hi
          have := List.all_eq_true.mp hix i hi
          rwa [List.contains_iff_mem] at this
        · refine ⟨σ1, S', F4, ρ', a', ?_⟩
          cases hT1 : ft σ1 S' with
          | bad =>
            rw [hT1] at q3
            exact q3.elim
          | exc n fs S5 =>
            rw [hT1] at q3
            exact q3.elim
          | ok b S5 =>
            rw [hT1] at q3
            intro F5 H5 ρ5 st5 sr5
            obtain ⟨d7, d8, d9⟩ := apart_step st5 d4 d5 d6
            have s5 := s4.trans st5
            have r5 := r3.mono (st4.frz.trans st5.frz)
            cases b with
            | false =>
              dsimp only at q3
              exact iteF ⟨S5, F5, ρ5, acc, us, s5, sr5, d7, r5, d9, d8, q3⟩
            | true =>
              dsimp only at q3
              refine iteT (tE_mk (a'.step st5 sr5) ?_)
              cases hE1 : fe σ1 S5 with
              | bad =>
                rw [hE1] at q3
                exact q3.elim
              | exc n fs S6 =>
                rw [hE1] at q3
                exact q3.elim
              | ok rv S6 =>
                rw [hE1] at q3
                dsimp only at q3
                intro F6 H6 ρ6 st6 sr6 v vr
                obtain ⟨d10, d11, d12⟩ := apart_step st6 d7 d8 d9
                obtain ⟨F7, s7, st7, sr7, wr⟩ := toW_rep sr6 st6 vr
                obtain ⟨_, d13, d14⟩ := apart_step st7 d7 d8 d9
                cases hw : rv.toW with
                | ref n =>
                  rw [hw] at q3
                  exact q3.elim
                | ex n fs =>
                  rw [hw] at q3
                  exact q3.elim
                | d x =>
                  rw [hw] at q3 wr
                  dsimp only at q3
                  split at q3
                  · rename_i hl
                    have r7 := r5.mono st7.frz
                    have s8 := s5.trans st7
                    cases wr with
                    | d rx =>
                      refine ⟨us, d10, by rw [r7.length, ← line_eq]; exact hl, S6, F7, ρ6, acc ++ [x], us ++ [v], step_upd s8 hD, srep_upd sr7 d13 d14, upd_same, r7.app (.cons rx .nil), d14, d13, q3⟩
                  · exact q3.elim
theorem je_lc (ok : XOk c G fr X) {elt tg it : Expr} {ifs : List Expr} {scope : Scope} {own : List (Str × Nat)} {pos : Pos} (hb : blkC fr.N fr.sc scope own = true) (ht : tgOk tg = true) (hix : ((slotsOf fr tg).all fun i => (own.map (·.2)).contains i) = true) (hn : noSet it = true)
    {fi : Env → Store → Out Src} {ft : Env → Store → Out Bool} {fe : Env → Store → Out RV} (hi : PI X tg it (tI c Xw fi))
    (hT : ∀ (s : Shared) (H : Hp) (C : Addr) (cl : List (Str × Addr)) (fp : List Addr), PTs (X.blk s H scope (compEnvC scope cl C X.env) fp) ifs (tB c (xwOf c WF) ft))
    (hE : ∀ (s : Shared) (H : Hp) (C : Addr) (cl : List (Str × Addr)) (fp : List Addr), PE (X.blk s H scope (compEnvC scope cl C X.env) fp) elt (tE c (xwOf c WF) fe)) :
    PE X (.ListComp elt [⟨tg, it, ifs, 0⟩] scope pos) (tE c Xw fun σ S => (fi σ S).bind fun src S1 => lcS (asgD (frC fr scope) tg) ft fe (curOf src) (wipeE σ (own.map (·.2))) (turnsOf src) 0 [] S1) := by
  have bo : BlkOk X.N X.env.scope scope own := by
    rw [ok.N, ok.sc]
    exact blkOk_by hb
  have hg : ∀ (s : Shared) (H : Hp) (C : Addr) (cl : List (Str × Addr)) (fp : List Addr), PG (X.blk s H scope (compEnvC scope cl C X.env) fp) tg (tG c (slotsOf (frC fr scope) tg) (asgD (frC fr scope) tg)) := fun s H C cl fp => jg (blk_ok ok bo.uniq) tg ht
  exact je_imp (pe_lc ok.calm ok.nd hi bo hg hT hE (noSet_fold hn)) (lc_read ok hix)
/-- does the store of a comprehension's list come ahead of the block's end? -/
def lcSw (fr : Fr) (y : Str) (py pos : Pos) (scope : Scope) : Bool := loc1 fr y && (py.line == pos.line) && !(scope.names.any fun (n, k) => n == y && (k == .local || k == .cell))
theorem lcSw_ok (ok : XOk c G fr X) (hk : X.env.scope.kind = .function) {y : Str} {py pos : Pos} {elt : Expr} {gs : List Comprehension} {scope : Scope} {l : Nat} : swapsWith (.ListComp elt gs scope pos) (some (.Name y py)) l X.env = pure (lcSw fr y py pos scope) := by
  have hb : X.env.blockKind = .function := by
    unfold Env.blockKind
    rw [hk]
    rfl
  unfold swapsWith lcSw
  dsimp only
  rw [hb]
  have e : (X.env.kindOf y == some .local) = loc1 fr y := by
    show (X.env.scope.names.lookup y == some NameKind.local) = decide (fr.sc.names.lookup y = some .local)
    rw [ok.sc]
    cases fr.sc.names.lookup y with
    | none => rfl
    | some k => cases k <;> rfl
  rw [e]
  rfl
theorem js_setLc {Wx : WX} (ok : XOk c G fr X) {elt tg it : Expr} {ifs : List Expr} {scope : Scope} {own : List (Str × Nat)} {pos spos py : Pos} {y : Str} {iy : Nat} (hl : isLoc fr y = true) (hiy : idx fr.N y = some iy) (hb : blkC fr.N fr.sc scope own = true) (ht : tgOk tg = true) (hix : ((slotsOf fr tg).all fun i => (own.map (·.2)).contains i) = true) (hn : noSet it = true)
    {fi : Env → Store → Out Src} {ft : Env → Store → Out Bool} {fe : Env → Store → Out RV} (hi : PI X tg it (tI c (xwOf c Wx) fi))
    (hT : ∀ (s : Shared) (H : Hp) (C : Addr) (cl : List (Str × Addr)) (fp : List Addr), PTs (X.blk s H scope (compEnvC scope cl C X.env) fp) ifs (tB c (xwOf c WF) ft))
    (hE : ∀ (s : Shared) (H : Hp) (C : Addr) (cl : List (Str × Addr)) (fp : List Addr), PE (X.blk s H scope (compEnvC scope cl C X.env) fp) elt (tE c (xwOf c WF) fe)) :
    PS X (.Assign [.Name y py] (.ListComp elt [⟨tg, it, ifs, 0⟩] scope pos) spos) (tS c Wx fun σ S => liftS ((fi σ S).bind fun src S1 => lcS (asgD (frC fr scope) tg) ft fe (curOf src) (wipeE σ (own.map (·.2))) (turnsOf src) 0 [] S1) σ fun rv S1 => setN fr y rv σ S1) := by
  have bo : BlkOk X.N X.env.scope scope own := by
    rw [ok.N, ok.sc]
    exact blkOk_by hb
  have hg : ∀ (s : Shared) (H : Hp) (C : Addr) (cl : List (Str × Addr)) (fp : List Addr), PG (X.blk s H scope (compEnvC scope cl C X.env) fp) tg (tG c (slotsOf (frC fr scope) tg) (asgD (frC fr scope) tg)) := fun s H C cl fp => jg (blk_ok ok bo.uniq) tg ht
  have hf : X.fn y = true ∨ X.env.scope.names.lookup y = some .local := by
    rcases ok.fnm y with h | h | h
    · exact .inl h
    · exact .inr h
    · rw [hl] at h
      cases h
  have read : ∀ (D : Ends) (τ : L2.St) (H : Hp), tS c Wx (fun σ S => liftS ((fi σ S).bind fun src S1 => lcS (asgD (frC fr scope) tg) ft fe (curOf src) (wipeE σ (own.map (·.2))) (turnsOf src) 0 [] S1) σ fun rv S1 => setN fr y rv σ S1) D τ H → tE c (xwOf c Wx) (fun σ S => (fi σ S).bind fun src S1 => lcS (asgD (frC fr scope) tg) ft fe (curOf src) (wipeE σ (own.map (·.2))) (turnsOf src) 0 [] S1) τ H fun x H1 => gName iy x τ H1 D.nx := by
    intro D τ H h
    obtain ⟨σ, S, F, ρ, a, q⟩ := h
    exact tE_mk a ((QS.lift a q).imp fun rv S1 F1 H1 ρ1 st sr q0 v vr => setN_ok a st sr vr hl hiy q0)
  have hN : X.N[iy]? = some y := by
    rw [ok.N]
    exact idx_get hiy
  refine ⟨fun pins s τ H D I h => ?_⟩
  have sw := lcSw_ok ok I.ok.kind (y := y) (py := py) (pos := pos) (elt := elt) (gs := [⟨tg, it, ifs, 0⟩]) (scope := scope) (l := spos.line)
  by_cases hs : lcSw fr y py pos scope = true
  · rw [hs] at sw
    have hy : X.env.scope.names.lookup y = some .local := by
      unfold lcSw at hs
      simp only [Bool.and_eq_true] at hs
      exact kind_of ok hs.1.1
    exact (ps_setLc ok.calm ok.nd hN hy sw hi bo hg hT hE (noSet_fold hn)).run pins s τ H D I (lc_read ok hix τ H _ (read D τ H h))
  · rw [Bool.not_eq_true] at hs
    rw [hs] at sw
    exact (ps_set ok.nd hN (isLoc_loc ok hl) (je_lc ok hb ht hix hn hi hT hE) sw hf).run pins s τ H D I (read D τ H h)
end
end Ev
set_option linter.all false
set_option maxHeartbeats 2000000
namespace Ev
open PySem L2

/-! ## isinstance; == and | by a class's own def -/
inductive Ty where
  | b (s : String) | own (k : Nat)
def Ty.val (c : Cs) : Ty → Value
  | .b s => .type s
  | .own k => .ref (c.cl k)
def tyR (S : Store) : RV → Option Ty
  | .w (.ref n) => match S[n]? with
    | some (.lst _) => some (.b "list")
    | some (.dct _ _ _) => some (.b "dict")
    | some (.ins k _) => some (.own k)
    | none => none
  | .w (.ex _ _) => none
  | .w (.d (.ins k _ _)) => some (.own k)
  | .w (.d x) => some (.b (tyD x))
  | .own _ => some (.b "list")
  | .ownd _ _ _ => some (.b "dict")
def tyNames : List String := ["NoneType", "bool", "int", "str", "tuple", "list", "dict"]
def tyAsked : List String := ["bool", "int", "str", "tuple", "list", "dict"]
/-- what the text says of its classes, for isinstance -/
structure GI (c : Cs) (G : Gm) : Prop where
  cls : ∀ (k : Nat) (ci : ClsI), G.clss[k]? = some ci → Cls c.K (c.cl k) ∧ PySem.W.findIn c.K (.ref (c.cl k)) "__class__" = some (some (.builtin "object.__class__")) ∧ PySem.W.mroIn c.K (c.cl k) (.type "object") = some true
  hn : PySem.W.specialIn c.K (.builtin "object.__class__") "__get__" = some (some (.builtin "getset_descriptor.__get__"))
  tk : PySem.W.takesIn c.K (.builtin "object.__class__") = some true
  ob : ∀ (k : Nat) (ci : ClsI) (b : String), G.clss[k]? = some ci → b ∈ tyAsked → PySem.W.kitOne c.K (.ref (c.cl k)) (.type b) = some false
  bo : ∀ (k : Nat) (ci : ClsI) (a : String), G.clss[k]? = some ci → a ∈ tyNames → PySem.W.kitOne c.K (.type a) (.ref (c.cl k)) = some false
  nf : ∀ (k : Nat) (ci : ClsI) (a : String), G.clss[k]? = some ci → a ∈ tyNames → PySem.W.notFirst c.K (c.cl k) (.type a) = true
  nfo : ∀ (k k' : Nat) (ci ci' : ClsI), G.clss[k]? = some ci → G.clss[k']? = some ci' → PySem.W.notFirst c.K (c.cl k) (.ref (c.cl k')) = true
  sf : ∀ (k : Nat) (ci : ClsI), G.clss[k]? = some ci → PySem.W.selfFirst c.K (c.cl k) = true
  oo : ∀ (k k' : Nat) (ci ci' : ClsI), G.clss[k]? = some ci → G.clss[k']? = some ci' → PySem.W.kitOne c.K (.ref (c.cl k)) (.ref (c.cl k')) = some (k == k')
def isA (G : Gm) : Ty → Ty → Option Bool
  | .b a, .b b => if tyNames.contains a && tyAsked.contains b then some (a == b || (a == "bool" && b == "int")) else none
  | .b a, .own k => if tyNames.contains a && (G.clss[k]?).isSome then some false else none
  | .own k, .b b => if tyAsked.contains b && (G.clss[k]?).isSome then some false else none
  | .own k, .own k' => if (G.clss[k]?).isSome && (G.clss[k']?).isSome then some (k == k') else none
theorem kit_tbl : ∀ a ∈ tyNames, ∀ b ∈ tyAsked, kitB a b = some (a == b || (a == "bool" && b == "int")) := by decide +kernel
section
variable {c : Cs} {G : Gm} {fr : Fr} {X : Cx} {Xw : XW} {R : Rec}
theorem isA_ok (gi : GI c G) {t u : Ty} {b : Bool} (h : isA G t u = some b) : PySem.W.kitOne c.K (t.val c) (u.val c) = some b := by
  unfold isA at h
  split at h
  · split at h
    · rename_i e
      rw [Bool.and_eq_true, List.contains_iff_mem, List.contains_iff_mem] at e
      rw [← h]
      exact kit_ty (kit_tbl _ e.1 _ e.2)
    · cases h
  · split at h
    · rename_i k e
      rw [Bool.and_eq_true, List.contains_iff_mem] at e
      obtain ⟨ci, hc⟩ := Option.isSome_iff_exists.mp e.2
      cases h
      exact gi.bo k ci _ hc e.1
    · cases h
  · split at h
    · rename_i k b' e
      rw [Bool.and_eq_true, List.contains_iff_mem] at e
      obtain ⟨ci, hc⟩ := Option.isSome_iff_exists.mp e.2
      cases h
      exact gi.ob k ci _ hc e.1
    · cases h
  · split at h
    · rename_i k k' e
      rw [Bool.and_eq_true] at e
      obtain ⟨ci, hc⟩ := Option.isSome_iff_exists.mp e.1
      obtain ⟨ci', hc'⟩ := Option.isSome_iff_exists.mp e.2
      cases h
      exact gi.oo k k' ci ci' hc hc'
    · cases h
theorem rep_ty (gi : GI c G) {F H : Hp} (hs : Same F H) {v : V} {x : D} (r : Rep c F v x) (hk : ∀ k fs vs, x = .ins k fs vs → ∃ ci, G.clss[k]? = some ci) : ∃ t, tyR [] (.w (.d x)) = some t ∧ TyX c.K H v (t.val c) := by
  cases r with
  | non => exact ⟨_, rfl, .base .non⟩
  | bl b => exact ⟨_, rfl, .base (.bl b)⟩
  | int i => exact ⟨_, rfl, .base (.int i)⟩
  | str z => exact ⟨_, rfl, .base (.str z)⟩
  | tup h r => exact ⟨_, rfl, .base (.tup (hs _ _ h))⟩
  | ktup h z r =>
    obtain ⟨o, h1, h2⟩ := z
    exact ⟨_, rfl, .kTuple h1 h2⟩
  | lst h r => exact ⟨_, rfl, .base (.lst (hs _ _ h))⟩
  | dct h r =>
    rcases h with ⟨_, kv, _, h⟩ | ⟨_, kv, _, h⟩
    · exact ⟨_, rfl, .base (.dK (hs _ _ h))⟩
    · exact ⟨_, rfl, .base (.dT (hs _ _ h))⟩
  | ins h l r =>
    obtain ⟨ci, hc⟩ := hk _ _ _ rfl
    obtain ⟨g1, g2, g3⟩ := gi.cls _ ci hc
    exact ⟨_, rfl, .base (.ins (hs _ _ h) g1 g2 gi.hn gi.tk g3)⟩
def tyKnown (G : Gm) : Ty → Bool
  | .b _ => true
  | .own k => (G.clss[k]?).isSome
theorem tyR_ok (gi : GI c G) {F H H₀ : Hp} {ρ : List Addr} {S : Store} (sr : SRep c F H ρ S) {v : V} {rv : RV} (r : VRep c F H ρ H₀ v rv) {t : Ty} (e : tyR S rv = some t) (hk : tyKnown G t = true) : TyX c.K H v (t.val c) := by
  have dat : ∀ {x : D}, WRep c F ρ v (.d x) → tyR S (.w (.d x)) = some t → TyX c.K H v (t.val c) := fun {x} w e => by
    cases w with
    | d r =>
      have e' : tyR [] (.w (.d x)) = some t := by
        rw [← e]
        cases x <;> rfl
      obtain ⟨t', h1, h2⟩ := rep_ty gi sr.sub r (fun k fs vs hx => by
        subst hx
        cases e'
        exact Option.isSome_iff_exists.mp hk)
      rw [e'] at h1
      cases h1
      exact h2
  cases rv with
  | own xs =>
    obtain ⟨p, vs, e1, ha, _⟩ := r
    subst e1
    cases e
    exact .base (.lst ha)
  | ownd b ks xs =>
    obtain ⟨p, vs, e1, ha, _⟩ := r
    subst e1
    cases e
    rcases ha with ⟨_, kv, _, h⟩ | ⟨_, kv, _, h⟩
    · exact .base (.dK h)
    · exact .base (.dT h)
  | w w =>
    cases w with
    | d x => exact dat r e
    | ex n fs => cases e
    | ref n =>
      unfold tyR at e
      cases r with
      | ref hn =>
        dsimp only at e
        split at e
        · rename_i ws hS
          cases e
          obtain ⟨vs, ha, _⟩ := sr.cell n _ _ hS hn
          exact .base (.lst ha)
        · rename_i b ks xs hS
          cases e
          obtain ⟨vs, ha, _⟩ := sr.cell n _ _ hS hn
          rcases ha with ⟨_, kv, _, h⟩ | ⟨_, kv, _, h⟩
          · exact .base (.dK h)
          · exact .base (.dT h)
        · rename_i k fs hS
          cases e
          obtain ⟨dx, vs, ha, _⟩ := sr.cell n _ _ hS hn
          obtain ⟨ci, hc⟩ := Option.isSome_iff_exists.mp (show (G.clss[k]?).isSome = true from hk)
          obtain ⟨g1, g2, g3⟩ := gi.cls _ ci hc
          exact .base (.ins ha g1 g2 gi.hn gi.tk g3)
        · cases e

/-! ### the class asked for -/
def tyTbl : List (Str × String) := [("bool", "bool"), ("int", "int"), ("str", "str"), ("tuple", "tuple"), ("list", "list"), ("dict", "dict")]
theorem tyTbl_boot : ∀ p ∈ tyTbl, bootBuiltins p.1 = some (.type p.2) ∧ p.1 ≠ "__name__" := by decide +kernel
/-- a class's name, as written -/
def clsE (G : Gm) (fr : Fr) : Expr → Option Ty
  | .Name x _ => if isGl fr x then match G.names.lookup x with
      | some (.cls k) => some (.own k)
      | none => (tyTbl.lookup x).map .b
      | _ => none
    else none
  | _ => none
def Ty.v (c : Cs) : Ty → V
  | .b s => .ty s
  | .own k => .ref (c.cl k)
theorem ty_clsV (c : Cs) (t : Ty) : ClsV (t.v c) (t.val c) := by
  cases t with
  | b s => exact .ty s
  | own k => exact .own _
theorem tbl_mem {x : Str} {s : String} : ∀ {l : List (Str × String)}, l.lookup x = some s → (x, s) ∈ l
  | [], h => by cases h
  | (y, t) :: l, h => by
    rw [List.lookup_cons] at h
    by_cases e : x == y
    · rw [e] at h
      have h : t = s := Option.some.inj h
      rw [← h, eq_of_beq e]
      exact List.mem_cons_self ..
    · have e : (x == y) = false := by simpa using e
      rw [e] at h
      exact List.mem_cons_of_mem _ (tbl_mem h)
/-- the class's value -/
theorem pe_cls (ok : XOk c G fr X) (hmg : ∀ (x : Str) (k : Nat), G.names.lookup x = some (.cls k) → X.mg x = some (.ref (c.cl k))) {e : Expr} {t : Ty} (h : clsE G fr e = some t) : isStar e = false ∧ PE X e (tC (t.v c)) := by
  unfold clsE at h
  split at h
  · rename_i x p
    split at h
    · rename_i hg
      obtain ⟨g1, g2⟩ := isGl_gl ok hg
      split at h
      · rename_i k hx
        cases h
        exact ⟨rfl, pe_glob g1 (hmg x k hx) (show RelV (.ref (c.cl k)) (.ref (c.cl k)) from rfl) g2⟩
      · rename_i hx
        cases hl : tyTbl.lookup x with
        | none =>
          rw [hl] at h
          cases h
        | some s =>
          rw [hl] at h
          cases h
          obtain ⟨b1, b2⟩ := tyTbl_boot _ (tbl_mem hl)
          refine ⟨rfl, ⟨fun pins s' τ H Q I q => ld_blt I g1 (ok.bi x hx b2) b1 ⟨.ty s, H, I, rfl, q⟩ b2 g2⟩⟩
      · cases h
    · cases h
  · cases h
/-- isinstance(e, C) -/
def isiS (G : Gm) (t : Ty) (rv : RV) (S : Store) : Out RV := match tyR S rv with
  | some u => if tyKnown G u then match isA G u t with
      | some b => .ok (.d (.bl b)) S
      | none => .bad
    else .bad
  | none => .bad
theorem je_isi (ok : XOk c G fr X) (gi : GI c G) (hmg : ∀ (x : Str) (k : Nat), G.names.lookup x = some (.cls k) → X.mg x = some (.ref (c.cl k))) {x : Str} (hb : isBi G fr x "isinstance" = true) {e e2 : Expr} {t : Ty} (h2 : clsE G fr e2 = some t) {p pos : Pos} (hs : isStar e = false) {f : Env → Store → Out RV} (he : PE X e (tE c Xw f)) :
    PE X (.Call (.Name x p) [e, e2] [] pos) (tE c Xw fun σ S => (f σ S).bind fun rv S1 => isiS G t rv S1) := by
  obtain ⟨rfl, g1, g2, g3⟩ := isBi_ok ok hb (by decide)
  obtain ⟨s2, p2⟩ := pe_cls ok hmg h2
  have pl : plainArgs [e2] = true := by
    unfold plainArgs
    rw [List.all_cons, s2]
    rfl
  refine je_imp (pe_callB (call_isi (X := X)) g1 g3 (by decide +kernel) (pa_cons he (pa_cons p2 pa_nil (starEach_plain s2)) (starEach_plain hs)) (by decide) g2 (starEach_plain hs) (backTo_plain pl)) fun τ H Q h => ?_
  obtain ⟨σ, S, F, ρ, a, q⟩ := tE_un h
  refine tE_mk a ((QO.bind q).imp fun rv S1 F1 H1 ρ1 st sr q0 v vr => ?_)
  have q1 := q0 st
  unfold isiS at q1
  split at q1
  · rename_i u hu
    split at q1
    · rename_i hk
      split at q1
      · rename_i b hA
        have ty := tyR_ok gi sr vr hu hk
        rw [← ok.K] at ty
        have ho := isA_ok gi hA
        rw [← ok.K] at ho
        exact ⟨v, t.v c, u.val c, t.val c, b, rfl, ty_clsV c t, ty, ho, QO.now sr q1 _ (.d (.bl b))⟩
      · exact q1.elim
    · exact q1.elim
  · exact q1.elim
/-! isinstance(e, (C, ..)) -/
def clsEs (G : Gm) (fr : Fr) : List Expr → Option (List Ty)
  | [] => some []
  | e :: es => match clsE G fr e, clsEs G fr es with
    | some t, some ts => some (t :: ts)
    | _, _ => none
def tLit (vs : List V) : TA := fun _ H Q => Q vs H
theorem pa_imp {es : List Expr} {t t' : TA} (h : PA X es t) (i : ∀ τ H Q, t' τ H Q → t τ H Q) : PA X es t' := ⟨fun pos pins s τ H Q I q => h.run pos pins s τ H Q I (i τ H Q q)⟩
theorem pa_cls (ok : XOk c G fr X) (hmg : ∀ (x : Str) (k : Nat), G.names.lookup x = some (.cls k) → X.mg x = some (.ref (c.cl k))) : ∀ {es : List Expr} {ts : List Ty}, clsEs G fr es = some ts → PA X es (tLit (ts.map (Ty.v c)))
  | [], ts, h => by
    cases h
    exact pa_imp pa_nil fun τ H Q q => q
  | e :: es, ts, h => by
    unfold clsEs at h
    split at h
    · rename_i t ts' h1 h2
      cases h
      obtain ⟨s1, p1⟩ := pe_cls ok hmg h1
      exact pa_imp (pa_cons p1 (pa_cls ok hmg h2) (starEach_plain s1)) fun τ H Q q => q
    · cases h
def isAny (G : Gm) (u : Ty) : List Ty → Option Bool
  | [] => some false
  | t :: ts => match isA G u t with
    | some true => some true
    | some false => isAny G u ts
    | none => none
theorem isAny_ok (gi : GI c G) {u : Ty} : ∀ {ts : List Ty} {b : Bool}, isAny G u ts = some b → PySem.W.kitAny c.K (u.val c) (ts.map (Ty.val c)) = some b
  | [], b, h => by
    cases h
    rfl
  | t :: ts, b, h => by
    unfold isAny at h
    split at h
    · rename_i hA
      cases h
      exact kitAny_cons (isA_ok gi hA) (fun z => nomatch z) fun _ => rfl
    · rename_i hA
      exact kitAny_cons (isA_ok gi hA) (fun _ => isAny_ok gi h) fun z => nomatch z
    · cases h
theorem clsV_all (c : Cs) : ∀ ts : List Ty, Paired ClsV (ts.map (Ty.v c)) (ts.map (Ty.val c))
  | [] => .nil
  | t :: ts => .cons (ty_clsV c t) (clsV_all c ts)
def isiT (G : Gm) (ts : List Ty) (rv : RV) (S : Store) : Out RV := match tyR S rv with
  | some u => if tyKnown G u then match isAny G u ts with
      | some b => if ts.length ≤ line then .ok (.d (.bl b)) S else .bad
      | none => .bad
    else .bad
  | none => .bad
theorem je_isiT (ok : XOk c G fr X) (gi : GI c G) (hmg : ∀ (x : Str) (k : Nat), G.names.lookup x = some (.cls k) → X.mg x = some (.ref (c.cl k))) {x : Str} (hb : isBi G fr x "isinstance" = true) {e : Expr} {es : List Expr} {k : Nat} {p2 : Pos} {ts : List Ty} (h2 : clsEs G fr es = some ts) {p pos : Pos} (hs : isStar e = false) {f : Env → Store → Out RV} (he : PE X e (tE c Xw f)) :
    PE X (.Call (.Name x p) [e, .Tuple es k p2] [] pos) (tE c Xw fun σ S => (f σ S).bind fun rv S1 => isiT G ts rv S1) := by
  obtain ⟨rfl, g1, g2, g3⟩ := isBi_ok ok hb (by decide)
  have p2' := pa_cls ok hmg h2
  have pl : plainArgs [Expr.Tuple es k p2] = true := rfl
  refine je_imp (pe_callB (call_isiT (X := X)) g1 g3 (by decide +kernel) (pa_cons he (pa_cons (pe_tup p2') pa_nil (starEach_plain rfl)) (starEach_plain hs)) (by decide) g2 (starEach_plain hs) (backTo_plain pl)) fun τ H Q h => ?_
  obtain ⟨σ, S, F, ρ, a, q⟩ := tE_un h
  refine tE_mk a ((QO.bind q).imp fun rv S1 F1 H1 ρ1 st sr q0 v vr => ?_)
  have q1 := q0 st
  unfold isiT at q1
  split at q1
  · rename_i u hu
    split at q1
    · rename_i hk
      split at q1
      · rename_i b hA
        split at q1
        · rename_i hl
          have ty := tyR_ok gi sr vr hu hk
          have ho := isAny_ok gi hA
          rw [← ok.K] at ho
          refine ⟨by rw [List.length_map, ← line_eq]; exact hl, fun tp htp => ?_⟩
          obtain ⟨s1, s2⟩ := new_frz (o := .tup (ts.map (Ty.v c))) sr htp
          have ty2 : TyX X.K (upd H1 tp (.tup (ts.map (Ty.v c)))) v (u.val c) := by
            rw [ok.K]
            exact tyR_ok gi s2 (vr.mono s1) hu hk
          exact ⟨v, tp, ts.map (Ty.v c), u.val c, ts.map (Ty.val c), b, rfl, upd_same, clsV_all c ts, ty2, ho, QO.at q1 s1 s2 _ (.d (.bl b))⟩
        · exact q1.elim
      · exact q1.elim
    · exact q1.elim
  · exact q1.elim

/-! ## == by a class's own __eq__ -/
end
end Ev
set_option linter.all false
set_option maxHeartbeats 2000000
namespace Ev
open PySem L2

/-! ## == and | by a class's own def (no exception of theirs is told) -/
def noX (o : Out RV) : Out RV := match o with
  | .ok v S => .ok v S
  | _ => .bad
def tyFit (G : Gm) : Ty → Bool
  | .b a => tyNames.contains a
  | .own k => (G.clss[k]?).isSome
def sameT : Ty → Option Nat → Bool
  | .own k, some n => k == n
  | _, _ => false
/-- the def that v's class has for it -/
def ownOp (G : Gm) (R : Rec) (m : Str) (same : Bool) (v u : RV) (S : Store) : Option (Out RV) := match methOf G m S v with
  | some (i, w) => match tyR S u with
    | some t => if tyFit G t && (!same || sameT t (clsOf S v)) then some (noX (callX G R i 2 [w, u.toW] S)) else some .bad
    | none => some .bad
  | none => none
section
variable {c : Cs} {G : Gm} {fr : Fr} {X : Cx} {Xw : XW} {R : Rec} {fa : Nat → Addr} {fd : Nat → FuncData} {dV : Nat → List Value} {k : Nat}
theorem takesF : Takes X WF := by
  rintro u s' ⟨a, B, sI, pins, σ, H, cls, d, _, _, _, _, _, _, _, _, w⟩
  exact w.elim
def rOwnE (c : Cs) (G : Gm) (R : Rec) (m : Str) (same : Bool) : R2 := fun x y H Q => ∃ a dx fs n ci i t F ρ S ws, x = .ref a ∧ H a = some (.ins (c.cl n) dx fs) ∧ G.clss[n]? = some ci ∧ ci.meths.lookup m = some i ∧ TyX c.K H y (Ty.val c t) ∧ tyFit G t = true ∧ (same = true → t.val c = .ref (c.cl n)) ∧
  SRep c F H ρ S ∧ WReps c F ρ [x, y] ws ∧ QO c (xwOf c WF) [] F ρ H (noX (callX G R i 2 ws S)) fun rv S' F' H' ρ' => ∀ v, VRep c F' H' ρ' H v rv → Q v H'
theorem noX_drop {o : Out RV} {F H : Hp} {ρ : List Addr} {τ τ' : L2.St} {Φ : RV → Store → Hp → Hp → List Addr → Prop} (h : QO c Xw τ F ρ H (noX o) Φ) : QO c (xwOf c WF) τ' F ρ H o Φ := by
  cases o with
  | ok v S => exact h
  | exc n fs S => exact h.elim
  | bad => exact h.elim
/-- the call of the def, its answer handed back -/
theorem own_call (ok : XOk c G fr X) (gs : GS c G X.mg fa fd dV) (hF : FnsOk c G R X.prog X.w X.mg X.base k fa fd) (hr : Room k X.A) {i : Nat} {pins : List (Addr × Obj)} {s : Shared} {τ : L2.St} {H : Hp} {Q : VK} (I : L2.Inv X pins τ H s) {x y : V} {v u : Value} (rx : RelV x v) (ry : RelV y u)
    {F : Hp} {ρ : List Addr} {S : Store} (sr : SRep c F H ρ S) {ws : List W} (wr : WReps c F ρ [x, y] ws) (q : QO c (xwOf c WF) [] F ρ H (noX (callX G R i 2 ws S)) fun rv S' F' H' ρ' => ∀ v, VRep c F' H' ρ' H v rv → Q v H') :
    wpAny (model X.prog X.w) X.A (call (.ref (fa i)) [v, u]) (PySem.W.CmpBack (EP X pins τ Q)) X.xe s := by
  refine wpAny_mono (run_X (m := 2) (Wx := WF) ok gs takesF hF hr I sr wr (.cons rx (.cons ry .nil)) (noX_drop (τ' := τ) q)) (fun w s' z => ?_) fun _ _ x => x
  obtain ⟨z', H', I', rz, qz⟩ := z
  exact SlX.cmpback rz ⟨z', H', I', rz, qz⟩
theorem fit_nf (gi : GI c G) {n : Nat} {ci : ClsI} (hci : G.clss[n]? = some ci) {t : Ty} (h : tyFit G t = true) : PySem.W.notFirst c.K (c.cl n) (t.val c) = true := by
  cases t with
  | b a =>
    have h : tyNames.contains a = true := h
    rw [List.contains_iff_mem] at h
    exact gi.nf n ci a hci h
  | own k =>
    obtain ⟨ci', hc'⟩ := Option.isSome_iff_exists.mp (show (G.clss[k]?).isSome = true from h)
    exact gi.nfo n k ci ci' hci hc'
theorem opEq (ok : XOk c G fr X) (gs : GS c G X.mg fa fd dV) (gi : GI c G) (hF : FnsOk c G R X.prog X.w X.mg X.base k fa fd) (hr : Room k X.A) : OpR X (compareOp .Eq) (rOwnE c G R "__eq__" false) := by
  intro pins s σ H x y v u Q I rx ry h
  obtain ⟨a, dx, fs, n, ci, i, t, F, ρ, S, ws, rfl, ea, hci, hmi, ty, ht, _, sr, wr, q⟩ := h
  cases (show v = Value.ref a from rx)
  have hme := gs.mth n ci "__eq__" i hci hmi
  rw [← ok.K] at hme ty
  have hnf := fit_nf gi hci ht
  rw [← ok.K] at hnf
  obtain ⟨mA, O, _⟩ := ins_get I.hok ea
  obtain ⟨od, J, _⟩ := O.look
  obtain ⟨P, Z, p, _⟩ := kit_of I ry ty
  obtain ⟨m, hFr⟩ := I.fr
  show wpAny (model X.prog X.w) X.A (richCompare .Eq (.ref a) u) _ _ s
  have hu : X.A.units < cLine := by
    have := hr.un
    omega
  exact PySem.W.cmp_K (op := .Eq) hu hFr I.ok.mod.kin J (Z.ty _ _ I.kIn p) hnf hme.at_ hme.fn (own_call ok gs hF hr I rx ry sr wr q)
theorem opOr (ok : XOk c G fr X) (gs : GS c G X.mg fa fd dV) (gi : GI c G) (hF : FnsOk c G R X.prog X.w X.mg X.base k fa fd) (hr : Room k X.A) : OpR X (binaryOp .BitOr) (rOwnE c G R "__or__" true) := by
  intro pins s σ H x y v u Q I rx ry h
  obtain ⟨a, dx, fs, n, ci, i, t, F, ρ, S, ws, rfl, ea, hci, hmi, ty, ht, hsame, sr, wr, q⟩ := h
  cases (show v = Value.ref a from rx)
  have hme := gs.mth n ci "__or__" i hci hmi
  rw [hsame rfl] at ty
  have hsf := gi.sf n ci hci
  rw [← ok.K] at hme ty hsf
  obtain ⟨mA, O, _⟩ := ins_get I.hok ea
  obtain ⟨od, J, _⟩ := O.look
  obtain ⟨P, Z, p, _⟩ := kit_of I ry ty
  obtain ⟨m, hFr⟩ := I.fr
  exact PySem.W.binop_K hFr I.ok.mod.kin J (Z.ty _ _ I.kIn p) hsf hme.at_ hme.fn (own_call ok gs hF hr I rx ry sr wr q)
/-- reading it -/
theorem own_read (gs : GS c G X.mg fa fd dV) (gi : GI c G) {m : Str} {same : Bool} {F H F' H' : Hp} {ρ ρ' : List Addr} {τ : L2.St} {S : Store} {x y : V} {v u : RV} {o : Out RV} {Q : VK} (sr : SRep c F H ρ S) (rx : VRep c F H ρ H' x v) (ry : VRep c F H ρ H' y u) (e : ownOp G R m same v u S = some o)
    (st0 : Step F' ρ' H' F ρ H) (q : QO c Xw τ F' ρ' H' o fun rv S' F'' H'' ρ'' => ∀ z, VRep c F'' H'' ρ'' H' z rv → Q z H'') : rOwnE c G R m same x y H Q := by
  unfold ownOp at e
  split at e
  · rename_i i w hm
    split at e
    · rename_i t ht
      by_cases hfit : (tyFit G t && (!same || sameT t (clsOf S v))) = true
      · rw [if_pos hfit] at e
        cases e
        rw [Bool.and_eq_true] at hfit
        obtain ⟨a, dx, fs, n, ci, rfl, ea, hci, hmi, rfl, wrep⟩ := methOf_ok gs sr rx hm
        obtain ⟨F2, s2, st2, sr2, wy⟩ := toW_rep sr st0 ry
        have hk : tyKnown G t = true := by
          cases t with
          | b a => rfl
          | own k => exact hfit.1
        refine ⟨a, dx, fs, n, ci, i, t, F2, ρ, S, _, rfl, ea, hci, hmi, tyR_ok gi sr ry ht hk, hfit.1, fun hs => ?_, sr2, .cons (wrep.mono s2 (List.prefix_refl _)) (.cons wy .nil), ?_⟩
        · have h2 := hfit.2
          rw [hs] at h2
          have h2 : sameT t (clsOf S (.w w)) = true := by simpa using h2
          have hc : ∃ j, clsOf S (.w w) = some j := by
            cases q : clsOf S (.w w) with
            | none =>
              rw [q] at h2
              cases t <;> cases h2
            | some j => exact ⟨j, rfl⟩
          obtain ⟨j, hc⟩ := hc
          obtain ⟨a', dx', fs', e1, e2, _⟩ := ins_at sr rx hc
          cases e1
          rw [ea] at e2
          cases t with
          | b a => cases h2
          | own k =>
            rw [hc] at h2
            have : k = j := eq_of_beq h2
            subst this
            have e3 : c.cl n = c.cl k := by
              injection e2 with e2
              injection e2
            show Value.ref (c.cl k) = .ref (c.cl n)
            rw [e3]
        · have q2 := QO.later st2 q
          have q3 : QO c (xwOf c WF) [] F2 ρ H (noX (callX G R i 2 [w, u.toW] S)) fun rv S' F'' H'' ρ'' => ∀ z, VRep c F'' H'' ρ'' H' z rv → Q z H'' := by
            cases ho : callX G R i 2 [w, u.toW] S with
            | ok v S' =>
              rw [ho] at q2
              exact q2
            | exc n fs S' =>
              rw [ho] at q2
              exact q2.elim
            | bad =>
              rw [ho] at q2
              exact q2.elim
          exact q3.imp fun rv S' F'' H'' ρ'' st sr' h z vr => h z (vr.back st0.back)
      · rw [if_neg hfit] at e
        cases e
        exact q.elim
    · cases e
      exact q.elim
  · cases e
/-- a == b, or a != .. by data alone -/
def eqF (G : Gm) (R : Rec) (v u : RV) (S : Store) : Out RV := match ownOp G R "__eq__" false v u S with
  | some o => o
  | none => opt ((cmpO .Eq S v u).map fun b => .d (.bl b)) S
theorem eq_read (ok : XOk c G fr X) (gs : GS c G X.mg fa fd dV) (gi : GI c G) {fa' fb : Env → Store → Out RV} (τ : L2.St) (H : Hp) (Q : VK) (h : tE c Xw (fun σ S => (fa' σ S).bind fun v S1 => (fb σ S1).bind fun u S2 => eqF G R v u S2) τ H Q) :
    tOp (fun x y H Q => rC X.K .Eq x y H Q ∨ rOwnE c G R "__eq__" false x y H Q) (tE c Xw fa') (tE c Xw fb) τ H Q := by
  obtain ⟨σ, S, F, ρ, at', q⟩ := tE_un h
  refine tE_mk at' ((QO.bind q).imp fun rv S1 F1 H1 ρ1 st sr q0 v vr => ?_)
  have q1 := QO.later st (QO.bind (q0 (Step.refl _ _ _)))
  refine tE_mk (at'.step st sr) (q1.imp fun ru S2 F2 H2 ρ2 st2 sr2 q2 u ur => ?_)
  have q3 := q2 (Step.refl _ _ _)
  unfold eqF at q3
  have vr2 := vr.mono st2
  have ur2 := ur.back st.back
  have st3 := st.trans st2
  cases ho : ownOp G R "__eq__" false rv ru S2 with
  | some o =>
    rw [ho] at q3
    exact .inr (own_read gs gi sr2 vr2 ur2 ho st3 q3)
  | none =>
    rw [ho] at q3
    refine .inl ?_
    dsimp only at q3
    unfold cmpO at q3
    split at q3
    · rename_i x y hx hy
      cases hc : cmpD .Eq x y with
      | none =>
        rw [hc] at q3
        exact q3.elim
      | some b =>
        rw [hc] at q3
        refine servesC ok.K .Eq F2 H2 ρ2 S2 v u x y (.d (.bl b)) Q sr2 (view_rep sr2 vr2 hx) (view_rep sr2 ur2 hy) (by show (cmpD .Eq x y).map _ = _; rw [hc]; rfl) fun w F' H' ρ' st' sr' wr => ?_
        exact QO.at q3 (st3.trans st') sr' w (wr.back st3.back)
    · exact q3.elim
theorem je_eqO (ok : XOk c G fr X) (gs : GS c G X.mg fa fd dV) (gi : GI c G) (hF : FnsOk c G R X.prog X.w X.mg X.base k fa fd) (hr : Room k X.A) {a b : Expr} {pos : Pos} {fa' fb : Env → Store → Out RV} (ha : PE X a (tE c Xw fa')) (hb : PE X b (tE c Xw fb)) (hn : noSet b = true) :
    PE X (.Compare a [.Eq] [b] pos) (tE c Xw fun σ S => (fa' σ S).bind fun v S1 => (fb σ S1).bind fun u S2 => eqF G R v u S2) := by
  have hu : X.A.units + 65 < cLine := by
    have := hr.un
    omega
  exact je_imp (pe_cmpR (opR_or (opC hu .Eq) (opEq ok gs gi hF hr)) ha hb (noSet_marks hn .Eq)) (eq_read ok gs gi)
theorem jt_eqO (ok : XOk c G fr X) (gs : GS c G X.mg fa fd dV) (gi : GI c G) (hF : FnsOk c G R X.prog X.w X.mg X.base k fa fd) (hr : Room k X.A) {a b : Expr} {pos : Pos} {fa' fb : Env → Store → Out RV} (ha : PE X a (tE c Xw fa')) (hb : PE X b (tE c Xw fb)) (hn : noSet b = true) :
    PT X (.Compare a [.Eq] [b] pos) (tB c Xw fun σ S => ((fa' σ S).bind fun v S1 => (fb σ S1).bind fun u S2 => eqF G R v u S2).bind fun v S1 => match asB v with | some k => .ok k S1 | none => .bad) := by
  have hu : X.A.units + 65 < cLine := by
    have := hr.un
    omega
  exact jt_of (pt_cmpR (opR_or (opC hu .Eq) (opEq ok gs gi hF hr)) ha hb (noSet_marks hn .Eq)) (eq_read ok gs gi)
/-! ### a | b: what its def raises is told -/
def orO (G : Gm) (R : Rec) (v u : RV) (S : Store) : Out RV := match methOf G "__or__" S v with
  | some (i, w) => match tyR S u with
    | some t => if tyFit G t && sameT t (clsOf S v) then callX G R i 2 [w, u.toW] S else .bad
    | none => .bad
  | none => .bad
def orF (G : Gm) (R : Rec) (v u : RV) (S : Store) : Out RV := orO G R v u S
def rOr (c : Cs) (G : Gm) (R : Rec) (Wx : WX) (τ : L2.St) : R2 := fun x y H Q => ∃ a dx fs n ci i F ρ S ws, x = .ref a ∧ H a = some (.ins (c.cl n) dx fs) ∧ G.clss[n]? = some ci ∧ ci.meths.lookup ("__or__" : Str) = some i ∧ TyX c.K H y (.ref (c.cl n)) ∧
  SRep c F H ρ S ∧ WReps c F ρ [x, y] ws ∧ QO c (xwOf c Wx) τ F ρ H (callX G R i 2 ws S) fun rv S' F' H' ρ' => ∀ v, VRep c F' H' ρ' H v rv → Q v H'
theorem je_orO {Wx : WX} (ok : XOk c G fr X) (gs : GS c G X.mg fa fd dV) (gi : GI c G) (tk : Takes X Wx) (hF : FnsOk c G R X.prog X.w X.mg X.base k fa fd) (hr : Room k X.A) {a b : Expr} {pos : Pos} {fa' fb : Env → Store → Out RV} (ha : PE X a (tE c (xwOf c Wx) fa')) (hb : PE X b (tE c (xwOf c Wx) fb)) :
    PE X (.BinOp a .BitOr b pos) (tE c (xwOf c Wx) fun σ S => (fa' σ S).bind fun v S1 => (fb σ S1).bind fun u S2 => orF G R v u S2) := by
  refine je_imp (t := fun τ H Q => tE c (xwOf c Wx) fa' τ H fun x H1 => tE c (xwOf c Wx) fb τ H1 fun y H2 => rOr c G R Wx τ x y H2 Q) ⟨fun pins s τ H Q I h => wpAny_BinOp (binT (R := fun x y H2 => rOr c G R Wx τ x y H2 Q) ha hb I h fun v u s2 x y H2 I2 rx ry q => ?_)⟩ fun τ H Q h => ?_
  · obtain ⟨a, dx, fs, n, ci, i, F, ρ, S, ws, rfl, ea, hci, hmi, ty, sr, wr, q⟩ := q
    cases (show v = Value.ref a from rx)
    have hme := gs.mth n ci "__or__" i hci hmi
    have hsf := gi.sf n ci hci
    rw [← ok.K] at hme ty hsf
    obtain ⟨mA, O, _⟩ := ins_get I2.hok ea
    obtain ⟨od, J, _⟩ := O.look
    obtain ⟨P, Z, p, _⟩ := kit_of I2 ry ty
    obtain ⟨m, hFr⟩ := I2.fr
    refine PySem.W.binop_K hFr I2.ok.mod.kin J (Z.ty _ _ I2.kIn p) hsf hme.at_ hme.fn ?_
    refine wpAny_mono (run_X (m := 2) ok gs tk hF hr I2 sr wr (.cons rx (.cons ry .nil)) q) (fun w s' z => ?_) fun _ _ x => x
    obtain ⟨z', H', I', rz, qz⟩ := z
    exact SlX.cmpback rz ⟨z', H', I', rz, qz⟩
  · obtain ⟨σ, S, F, ρ, at', q⟩ := tE_un h
    refine tE_mk at' ((QO.bind q).imp fun rv S1 F1 H1 ρ1 st sr q0 v vr => ?_)
    have q1 := QO.later st (QO.bind (q0 (Step.refl _ _ _)))
    refine tE_mk (at'.step st sr) (q1.imp fun ru S2 F2 H2 ρ2 st2 sr2 q2 u ur => ?_)
    have q3 := q2 (Step.refl _ _ _)
    unfold orF orO at q3
    have rx := vr.mono st2
    have ry := ur.back st.back
    have st0 := st.trans st2
    split at q3
    · rename_i i w hm
      split at q3
      · rename_i t ht
        by_cases hfit : (tyFit G t && sameT t (clsOf S2 rv)) = true
        · rw [if_pos hfit] at q3
          rw [Bool.and_eq_true] at hfit
          obtain ⟨a, dx, fs, n, ci, rfl, ea, hci, hmi, rfl, wrep⟩ := methOf_ok gs sr2 rx hm
          obtain ⟨F3, s3, st3, sr3, wy⟩ := toW_rep sr2 st0 ry
          have hk : tyKnown G t = true := by
            cases t with
            | b a => rfl
            | own k => exact hfit.1
          refine ⟨a, dx, fs, n, ci, i, F3, ρ2, S2, _, rfl, ea, hci, hmi, ?_, sr3, .cons (wrep.mono s3 (List.prefix_refl _)) (.cons wy .nil), ?_⟩
          · have h2 := hfit.2
            have hc : ∃ j, clsOf S2 (.w w) = some j := by
              cases q : clsOf S2 (.w w) with
              | none =>
                rw [q] at h2
                cases t <;> cases h2
              | some j => exact ⟨j, rfl⟩
            obtain ⟨j, hc⟩ := hc
            obtain ⟨a', dx', fs', e1, e2, _⟩ := ins_at sr2 rx hc
            cases e1
            rw [ea] at e2
            cases t with
            | b a => cases h2
            | own k =>
              rw [hc] at h2
              have : k = j := eq_of_beq h2
              subst this
              have e3 : c.cl n = c.cl k := by
                injection e2 with e2
                injection e2
              have := tyR_ok gi sr2 ry ht hk
              rw [e3]
              exact this
          · have q4 := QO.later st3 q3
            exact q4.imp fun rv S' F'' H'' ρ'' st sr' h z vr => h z (vr.back st0.back)
        · rw [if_neg hfit] at q3
          exact q3.elim
      · exact q3.elim
    · exact q3.elim
end
end Ev
set_option linter.all false
set_option maxHeartbeats 2000000
namespace Ev
open PySem L2

/-! ## C(..), C(e, .., k = v, ..) -/
inductive Fl where
  | p (j : Nat) | k (j : Nat) | d (x : D)
/-- one way of calling: the class, values written, keywords, where each of __init__'s parameters comes from -/
structure KP where
  n : Nat
  m : Nat
  ks : List Str
  fill : List Fl
def fillW (ws us : List W) : List Fl → Option (List W)
  | [] => some []
  | .p j :: r => match ws[j]?, fillW ws us r with
    | some w, some l => some (w :: l)
    | _, _ => none
  | .k j :: r => match us[j]?, fillW ws us r with
    | some w, some l => some (w :: l)
    | _, _ => none
  | .d x :: r => match fillW ws us r with
    | some l => some (.d x :: l)
    | none => none
def fillV (vs zs : List V) (dv : D → V) : List Fl → Option (List V)
  | [] => some []
  | .p j :: r => match vs[j]?, fillV vs zs dv r with
    | some w, some l => some (w :: l)
    | _, _ => none
  | .k j :: r => match zs[j]?, fillV vs zs dv r with
    | some w, some l => some (w :: l)
    | _, _ => none
  | .d x :: r => match fillV vs zs dv r with
    | some l => some (dv x :: l)
    | none => none
/-- the text binds these calls so -/
def GK (c : Cs) (G : Gm) (kps : List KP) (fd : Nat → FuncData) : Prop := ∀ kp ∈ kps, ∀ (ci : ClsI) (fi : FnI), G.clss[kp.n]? = some ci → G.fns[ci.init]? = some fi → kp.fill.length + 1 = fi.ps.length ∧ ∃ g gV dv, KBn c.K (fd ci.init) fi.ps (kp.m + 1) kp.ks g gV ∧
  (∀ x, Fl.d x ∈ kp.fill → Rep c (fun _ => none) (dv x) x) ∧ ∀ v0 vs zs, vs.length = kp.m → zs.length = kp.ks.length → ∃ l, fillV vs zs dv kp.fill = some l ∧ gV (v0 :: vs) zs = v0 :: l
section
variable {c : Cs} {G : Gm} {fr : Fr} {X : Cx} {Wx : WX} {Xw : XW} {R : Rec} {fa : Nat → Addr} {fd : Nat → FuncData} {dV : Nat → List Value} {k : Nat}
theorem wget {F : Hp} {ρ : List Addr} : ∀ {vs : List V} {ws : List W} {j : Nat} {v : V}, WReps c F ρ vs ws → vs[j]? = some v → ∃ w, ws[j]? = some w ∧ WRep c F ρ v w
  | _, _, _, _, .nil, e => by simp at e
  | _, _, 0, v, .cons h _, e => by simp at e; subst e; exact ⟨_, rfl, h⟩
  | _, _, j + 1, v, .cons _ t, e => by
    obtain ⟨w, h1, h2⟩ := wget (j := j) t (by simpa using e)
    exact ⟨w, by simpa using h1, h2⟩
theorem fill_reps {F : Hp} {ρ : List Addr} {vs zs : List V} {ws us : List W} {dv : D → V} (r1 : WReps c F ρ vs ws) (r2 : WReps c F ρ zs us) : ∀ {fl : List Fl} {l : List V}, (∀ x, Fl.d x ∈ fl → Rep c (fun _ => none) (dv x) x) → fillV vs zs dv fl = some l → ∃ l', fillW ws us fl = some l' ∧ WReps c F ρ l l'
  | [], l, _, h => by
    cases h
    exact ⟨[], rfl, .nil⟩
  | .p j :: r, l, hd, h => by
    unfold fillV at h
    split at h
    · rename_i v l0 h1 h2
      cases h
      obtain ⟨w, e1, e2⟩ := wget r1 h1
      obtain ⟨l', e3, e4⟩ := fill_reps r1 r2 (fun x hx => hd x (List.mem_cons_of_mem _ hx)) h2
      exact ⟨w :: l', by unfold fillW; rw [e1, e3], .cons e2 e4⟩
    · cases h
  | .k j :: r, l, hd, h => by
    unfold fillV at h
    split at h
    · rename_i v l0 h1 h2
      cases h
      obtain ⟨w, e1, e2⟩ := wget r2 h1
      obtain ⟨l', e3, e4⟩ := fill_reps r1 r2 (fun x hx => hd x (List.mem_cons_of_mem _ hx)) h2
      exact ⟨w :: l', by unfold fillW; rw [e1, e3], .cons e2 e4⟩
    · cases h
  | .d x :: r, l, hd, h => by
    unfold fillV at h
    split at h
    · rename_i l0 h2
      cases h
      obtain ⟨l', e3, e4⟩ := fill_reps r1 r2 (fun x hx => hd x (List.mem_cons_of_mem _ hx)) h2
      exact ⟨.d x :: l', by unfold fillW; rw [e3], .cons (.d ((hd x List.mem_cons_self).mono (same_none F))) e4⟩
    · cases h
/-- keywords' values -/
def kwExprs (kws : List Keyword) : List Expr := kws.map (·.value)
theorem jk_args (hE : ∀ e, PE X e (tE c Xw fun σ S => R.E fr σ e S)) : ∀ (bs : List Bool) (kws : List Keyword), PK X kws (tA c Xw fun σ S => evArgsK R fr σ bs (kwExprs kws) S)
  | _, [] => ⟨fun pos pins s τ H Q I h => pk_nil.run pos pins s τ H Q I (by
      obtain ⟨σ, S, F, ρ, a, q⟩ := h
      have q : QO c Xw τ F ρ H (.ok [] S) _ := q
      exact QO.now (Xw := Xw) a.st q [] .nil)⟩
  | bs, ⟨nm, e, kp⟩ :: kws => by
    refine ⟨fun pos pins s τ H Q I h => (pk_cons (hE e) (jk_args hE bs.tail kws)).run pos pins s τ H Q I ?_⟩
    obtain ⟨σ, S, F, ρ, a, q⟩ := h
    have q : QO c Xw τ F ρ H ((R.E fr σ e S).bind fun v S1 => (evArgsK R fr σ bs.tail (kwExprs kws) (keepW (bs.headD false) v S1).2).bind fun ws S2 => .ok ((keepW (bs.headD false) v S1).1 :: ws) S2) _ := q
    refine tE_mk a ((QO.bind q).imp fun rv S1 F1 H1 ρ1 st sr q1 v vr => ?_)
    obtain ⟨F2, ρ2, k1, k2, st2, sr2, wr⟩ := keepW_ok st sr vr (bs.headD false)
    exact ⟨σ, _, F2, ρ2, ⟨a.env.mono st2.frz st2.pre, sr2⟩, (QO.bind (q1 st2)).imp fun ws S2 F3 H3 ρ3 st4 sr4 q4 vs wr' => QO.now sr4 (q4 st4) (v :: vs) (.cons (wr.mono st4.frz st4.pre) wr')⟩
def kwNames (kws : List Keyword) : List (Option Str) := kws.map (·.arg)
def makeK (G : Gm) (R : Rec) (kp : KP) (ws us : List W) (S : Store) : Out RV := if ws.length = kp.m ∧ us.length = kp.ks.length then match fillW ws us kp.fill with
    | some l => makeY G R kp.n l S
    | none => .bad
  else .bad
theorem kw_each {kws : List Keyword} {ks : List Str} {pos : Pos} {env : PySem.Env} (h : kwNames kws = ks.map some) : (backToKw pos (keywordEach kws env)).map (·.1) = ks.map some := by
  induction kws generalizing ks with
  | nil =>
    cases ks with
    | nil => rfl
    | cons _ _ => cases h
  | cons kw kws ih =>
    obtain ⟨nm, e, kp⟩ := kw
    cases ks with
    | nil => cases h
    | cons y ks =>
      have h' : nm = some y ∧ kwNames kws = ks.map some := by
        have : nm :: kwNames kws = some y :: ks.map some := h
        injection this with a b
        exact ⟨a, b⟩
      have r := ih h'.2
      show nm :: (backToKw pos (keywordEach kws env)).map (·.1) = some y :: ks.map some
      rw [r, h'.1]
theorem all_some {α : Type} : ∀ {l : List (Option Str × α)} {ks : List Str}, l.map (·.1) = ks.map some → l.all (·.1.isSome) = true ∧ l.filterMap (·.1) = ks ∧ l.any (·.1.isNone) = false
  | [], [], _ => ⟨rfl, rfl, rfl⟩
  | [], _ :: _, h => by cases h
  | _ :: _, [], h => by cases h
  | (o, a) :: l, y :: ks, h => by
    have h' : o = some y ∧ l.map (·.1) = ks.map some := by
      have : o :: l.map (·.1) = some y :: ks.map some := h
      injection this with a b
      exact ⟨a, b⟩
    obtain ⟨r1, r2, r3⟩ := all_some h'.2
    rw [h'.1]
    exact ⟨by rw [List.all_cons, r1]; rfl, by rw [List.filterMap_cons, r2], by rw [List.any_cons, r3]; rfl⟩
/-- the call by its values -/
theorem kw_run (ok : XOk c G fr X) (tk : Takes X Wx) {f C : Addr} {fdd : FuncData} {ps ks : List Str} {sp : Sp} {m : Nat} {g : List Value → List Value → List Value} {gV : List V → List V → List V} (M : Mk X.K C f) (F : FnOk X.prog X.w X.K X.mg X.base (L2.CX X.prog X.w) k f fdd ps sp) (hr : Room (k + 1) X.A) (hb : KBn X.K fdd ps (m + 1) ks g gV)
    {pins : List (Addr × Obj)} {τ : L2.St} {H : Hp} {s : Shared} {Q : VK} {us ws : List Value} {vs zs : List V} (I : L2.Inv X pins τ H s) (r : Vals vs us) (rz : Vals zs ws) (l1 : vs.length = m) (l2 : zs.length = ks.length)
    (h : ∀ x dx, H x = none → H dx = none → dx ≠ x → sp (gV (.ref x :: vs) zs) (upd (upd H dx (.own x)) x (.ins C dx [])) (fun v H2 => v = .non ∧ Q (.ref x) H2) (WE Wx τ)) :
    wpAny (model X.prog X.w) X.A (call (.ref C) us (ks.zip ws)) (EP X pins τ Q) X.xe s := by
  obtain ⟨new, hnew⟩ : ∃ new, new = s.heap.objs.size + 1 := ⟨_, rfl⟩
  have prom := h new s.heap.objs.size (I.hok.fresh (by rw [hnew]; exact Nat.le_succ _)) (I.hok.fresh (Nat.le_refl _)) (by rw [hnew]; exact Nat.ne_of_lt (Nat.lt_succ_self _))
  have J := Inv.made (C := C) I
  rw [← hnew] at J
  have first : Vals (V.ref new :: vs) (Value.ref new :: us) := .cons rfl r
  have count : (Value.ref new :: us).length = m + 1 := by rw [List.length_cons, ← r.length, l1]
  refine wpAny_call (make_map (f := f) I.kIn M.makes M.init (beq_iff_eq.mp M.fn) ?_)
  rw [← hnew]
  refine codeAny_mono (F.run _ X.stack _ _ ⟨Value.ref new :: us, ks.zip ws⟩ (g (Value.ref new :: us) ws) _ _ (WE Wx τ) (hr.make C us (ks.zip ws)) (J.env0.make C us (ks.zip ws)) (hb.to _ (Value.ref new :: us) ws J.kIn count (rz.length.symm.trans l2)) (hb.rel first rz) prom) fun out s' hq => ?_
  cases out with
  | error e => exact passAt tk τ _ _ _ e s' J hq
  | ok fl =>
    cases fl with
    | ret u =>
      obtain ⟨v, H', I3, rv, ev, q3⟩ := J.after hq
      subst ev
      exact ⟨rv, ⟨V.ref new, H', I3, rfl, q3⟩⟩
    | _ => exact False.elim hq
theorem je_makeK {Rc : Rec} (ok : XOk c G fr X) (gs : GS c G X.mg fa fd dV) (tk : Takes X Wx) (hF : FnsOk c G Rc X.prog X.w X.mg X.base k fa fd) (hr : Room (k + 1) X.A) {kps : List KP} (gk : GK c G kps fd) {x : Str} {n : Nat} {ci : ClsI} {fi : FnI} (hg : isGl fr x = true) (hx : G.names.lookup x = some (.cls n)) (hci : G.clss[n]? = some ci) (hi : G.fns[ci.init]? = some fi)
    {kp : KP} (hkp : kp ∈ kps) (hn : kp.n = n) {es : List Expr} {kws : List Keyword} {p pos : Pos} (hp : plainArgs es = true) (hm : es.length = kp.m) (hks : kwNames kws = kp.ks.map some) (bs bs' : List Bool) (hE : ∀ e, PE X e (tE c (xwOf c Wx) fun σ S => R.E fr σ e S)) :
    PE X (.Call (.Name x p) es kws pos) (tE c (xwOf c Wx) fun σ S => (evArgsK R fr σ bs es S).bind fun ws S1 => (evArgsK R fr σ bs' (kwExprs kws) S1).bind fun us S2 => makeK G Rc kp ws us S2) := by
  obtain ⟨g1, g2⟩ := isGl_gl ok hg
  obtain ⟨hlen, g, gV, dv, hb, hdv, hfill⟩ := gk kp hkp ci fi (by rw [hn]; exact hci) hi
  rw [← ok.K] at hb
  have M : Mk X.K (c.cl n) (fa ci.init) := by rw [ok.K]; exact gs.mkc n ci hci
  have hF2 : FnOk X.prog X.w X.K X.mg X.base (L2.CX X.prog X.w) k (fa ci.init) (fd ci.init) fi.ps (spF c G Rc ci.init) := by
    rw [ok.K]
    exact hF ci.init fi hi
  have hkw := jk_args (X := X) hE bs' kws
  obtain ⟨k1, k2, k3⟩ := all_some (kw_each (pos := pos) (env := X.env) hks)
  -- reading the call behind its arguments
  have core : ∀ {τ : L2.St} {H2 : Hp} {Q : VK} {F2 : Hp} {ρ2 : List Addr} {S2 : Store} {vs zs : List V} {ws us : List W}, SRep c F2 H2 ρ2 S2 → WReps c F2 ρ2 vs ws → WReps c F2 ρ2 zs us → QO c (xwOf c Wx) τ F2 ρ2 H2 (makeK G Rc kp ws us S2) (fun rv S' F' H' ρ' => ∀ v, VRep c F' H' ρ' H2 v rv → Q v H') →
      vs.length = kp.m ∧ zs.length = kp.ks.length ∧ ∀ x dx, H2 x = none → H2 dx = none → dx ≠ x → spF c G Rc ci.init (gV (.ref x :: vs) zs) (upd (upd H2 dx (.own x)) x (.ins (c.cl n) dx [])) (fun v H3 => v = .non ∧ Q (.ref x) H3) (WE Wx τ) := by
    intro τ H2 Q F2 ρ2 S2 vs zs ws us sr2 r1 r2 q
    unfold makeK at q
    split at q
    · rename_i hl
      have l1 : vs.length = kp.m := by rw [Paired.len r1]; exact hl.1
      have l2 : zs.length = kp.ks.length := by rw [Paired.len r2]; exact hl.2
      refine ⟨l1, l2, fun x dx h1 h2 h3 => ?_⟩
      obtain ⟨l, e1, e2⟩ := hfill (.ref x) vs zs l1 l2
      obtain ⟨l', e3, e4⟩ := fill_reps r1 r2 hdv e1
      rw [e3] at q
      dsimp only at q
      rw [hn] at q
      rw [e2]
      refine make_key hci hi sr2 e4 ?_ q h1 h2 h3
      have len : ∀ {fl : List Fl} {l : List V}, fillV vs zs dv fl = some l → l.length = fl.length := by
        intro fl
        induction fl with
        | nil => intro l h; cases h; rfl
        | cons f fl ih =>
          intro l h
          cases f with
          | p j =>
            unfold fillV at h
            split at h
            · rename_i h1 h2; cases h; rw [List.length_cons, List.length_cons, ih h2]
            · cases h
          | k j =>
            unfold fillV at h
            split at h
            · rename_i h1 h2; cases h; rw [List.length_cons, List.length_cons, ih h2]
            · cases h
          | d x =>
            unfold fillV at h
            split at h
            · rename_i h2; cases h; rw [List.length_cons, List.length_cons, ih h2]
            · cases h
      rw [len e1]
      exact hlen
    · exact q.elim
  cases es with
  | nil =>
    have hm' : kp.m = 0 := hm.symm
    refine ⟨fun pins s τ H Q I h => ?_⟩
    rw [hm'] at hb
    have hkw' : tA c (xwOf c Wx) (fun σ S => evArgsK R fr σ bs' (kwExprs kws) S) τ H (fun zs H2 => zs.length = kp.ks.length ∧ ∀ x dx, H2 x = none → H2 dx = none → dx ≠ x → spF c G Rc ci.init (gV [.ref x] zs) (upd (upd H2 dx (.own x)) x (.ins (c.cl n) dx [])) (fun v H3 => v = .non ∧ Q (.ref x) H3) (WE Wx τ)) := by
      obtain ⟨σ, S, F, ρ, a, q⟩ := tE_un h
      have q : QO c (xwOf c Wx) τ F ρ H ((evArgsK R fr σ bs' (kwExprs kws) S).bind fun us S2 => makeK G Rc kp [] us S2) _ := q
      refine ⟨σ, S, F, ρ, a, (QO.bind q).imp fun us S2 F2 H2 ρ2 st2 sr2 q2 zs wr => ?_⟩
      obtain ⟨l1, l2, l3⟩ := core (vs := []) sr2 .nil wr ((q2 st2).imp fun rv S' F' H' ρ' st sr h v vr => h v (vr.back st2.back))
      exact ⟨l2, l3⟩
    refine wpAny_Call_Name_kw (ld_glob I g1 (gs.mgc x n hx) ?_ g2)
    refine PySem.W.callWith_KW0 (h₀ := X.base) I.ok.mod.kin M.kp k1 ?_ (by rw [k3]; rfl)
    refine thn (hkw.run pos pins s τ H _ I hkw') fun ws s2 ⟨zs, H2, I2, rz, l2, q2⟩ => ⟨I2.kIn, ?_⟩
    rw [k2]
    exact kw_run (us := []) (vs := []) ok tk M hF2 hr hb I2 .nil rz rfl l2 q2
  | cons e es =>
    obtain ⟨p1, p2⟩ := plain_cons hp
    refine ⟨fun pins s τ H Q I h => ?_⟩
    have args : tA c (xwOf c Wx) (fun σ S => evArgsK R fr σ bs (e :: es) S) τ H (fun vs H1 => tA c (xwOf c Wx) (fun σ S => evArgsK R fr σ bs' (kwExprs kws) S) τ H1 (fun zs H2 => vs.length = kp.m ∧ zs.length = kp.ks.length ∧ ∀ x dx, H2 x = none → H2 dx = none → dx ≠ x → spF c G Rc ci.init (gV (.ref x :: vs) zs) (upd (upd H2 dx (.own x)) x (.ins (c.cl n) dx [])) (fun v H3 => v = .non ∧ Q (.ref x) H3) (WE Wx τ))) := by
      obtain ⟨σ, S, F, ρ, a, q⟩ := tE_un h
      refine ⟨σ, S, F, ρ, a, (QO.bind q).imp fun ws S1 F1 H1 ρ1 st sr q0 vs wr => ?_⟩
      refine ⟨σ, S1, F1, ρ1, a.step st sr, (QO.later st (QO.bind (q0 (Step.refl _ _ _)))).imp fun us S2 F2 H2 ρ2 st2 sr2 q2 zs wr2 => ?_⟩
      have st3 := st.trans st2
      exact core sr2 (WReps.mono st2.frz st2.pre wr) wr2 ((q2 st3).imp fun rv S' F' H' ρ' st sr h v vr => h v (vr.back st3.back))
    have hpl : ((backTo pos (starEach (e :: es) X.env)).any (·.1) || (backToKw pos (keywordEach kws X.env)).any (·.1.isNone)) = false := by
      rw [k3, starEach_plain p1]
      show (false || (backTo pos (starEach es X.env)).any (·.1) || false) = false
      rw [backTo_plain p2]
      rfl
    refine wpAny_Call_Name_kw (ld_glob I g1 (gs.mgc x n hx) ?_ g2)
    refine PySem.W.callWith_KW (h₀ := X.base) I.ok.mod.kin M.kp k1 (thn ((ja_argsK hE bs (e :: es) hp).run pos pins s τ H _ I args) fun us s1 ⟨vs, H1, I1, r, q⟩ => ?_) hpl (starEach_plain p1)
    refine thn (hkw.run pos pins s1 τ H1 _ I1 q) fun ws s2 ⟨zs, H2, I2, rz, l1, l2, q2⟩ => ⟨I2.kIn, ?_⟩
    rw [k2]
    exact kw_run ok tk M hF2 hr hb I2 r rz l1 l2 q2
end
end Ev
set_option linter.all false
set_option maxHeartbeats 2000000
namespace Ev
open PySem L2

/-! ## built-in functions by their names -/
def biOf (G : Gm) (fr : Fr) (x : Str) : Option (List D → Option RV) :=
  if isBi G fr x "len" then some oLen else if isBi G fr x "int" then some oInt else if isBi G fr x "all" then some oAll else if isBi G fr x "max" then some oMax
  else if isBi G fr x "min" then some oMin else if isBi G fr x "tuple" then some oTup else if isBi G fr x "list" then some oLst else none
section
variable {c : Cs} {G : Gm} {fr : Fr} {X : Cx} {Xw : XW} {R : Rec}
theorem je_bi (ok : XOk c G fr X) {x : Str} {o : List D → Option RV} (h : biOf G fr x = some o) {e : Expr} {es : List Expr} {p pos : Pos} (hp : plainArgs (e :: es) = true) {f : Env → Store → Out (List W)} (ha : PA X (e :: es) (tA c Xw f)) : PE X (.Call (.Name x p) (e :: es) [] pos) (tE c Xw fun σ S => (f σ S).bind (biO o)) := by
  unfold biOf at h
  have hu1 : X.A.units + 1 < cLine := by
    have := ok.hu
    omega
  split at h
  · rename_i hb
    cases h
    exact jbi_fn ok hb (by decide) (by decide +kernel) cLen sLen hp ha
  · split at h
    · rename_i hb
      cases h
      exact jbi_ty ok hb (by decide) (by decide +kernel) call_int1 sInt hp ha
    · split at h
      · rename_i hb
        cases h
        exact jbi_fn ok hb (by decide) (by decide +kernel) (cr_all ok.calm) sAll hp ha
      · split at h
        · rename_i hb
          cases h
          exact jbi_fn ok hb (by decide) (by decide +kernel) (callR_or (call_max2 ok.calm) (callR_or (cr_max ok.calm) (cr_maxT ok.calm))) sMax hp ha
        · split at h
          · rename_i hb
            cases h
            exact jbi_fn ok hb (by decide) (by decide +kernel) (callR_or (call_min2 ok.calm) (cr_min ok.calm)) sMin hp ha
          · split at h
            · rename_i hb
              cases h
              exact jbi_ty ok hb (by decide) (by decide +kernel) call_tuple_of sTup hp ha
            · split at h
              · rename_i hb
                cases h
                exact jbi_ty ok hb (by decide) (by decide +kernel) call_list_of sLst hp ha
              · cases h
end
end Ev
set_option linter.all false
set_option maxHeartbeats 4000000
namespace Ev
open PySem L2

/-! ## one step of the evaluator -/
def ownOf (fr : Fr) (scope : Scope) : List (Str × Nat) := scope.names.filterMap fun y => if y.2 == .local || y.2 == .cell then (idx fr.N y.1).map fun i => (y.1, i) else none
/-- the guards of a comprehension -/
def lcOk (fr : Fr) (tg it : Expr) (scope : Scope) : Bool := blkC fr.N fr.sc scope (ownOf fr scope) && tgOk tg && ((slotsOf fr tg).all fun i => ((ownOf fr scope).map (·.2)).contains i) && noSet it
section
variable (G : Gm) (kps : List KP) (R Rc : Rec) (fr : Fr)
/-- what is walked -/
def iterF (tg it : Expr) (σ : Env) (S : Store) : Out Src := match it with
  | .Call (.Name x _) [e] [] _ =>
    if isBi G fr x "enumerate" && isTupE tg && plainArgs [e] then (evArgs R fr σ [e] S).bind enS
    else if isBi G fr x "range" && plainArgs [e] then (evArgs R fr σ [e] S).bind fun ws S1 => match ws with
      | [w] => optS (rgO1 w) S1
      | _ => .bad
    else (R.E fr σ it S).bind fun v S1 => optS (srcO v S1) S1
  | .Call (.Name x _) [e, e2] [] _ =>
    if isBi G fr x "zip" && isTupE tg && plainArgs [e, e2] then (evArgs R fr σ [e, e2] S).bind zpS
    else if isBi G fr x "range" && plainArgs [e, e2] then (evArgs R fr σ [e, e2] S).bind fun ws S1 => match ws with
      | [w, u] => optS (rgO w u) S1
      | _ => .bad
    else (R.E fr σ it S).bind fun v S1 => optS (srcO v S1) S1
  | it => (R.E fr σ it S).bind fun v S1 => optS (srcO v S1) S1
/-- a clause's tests -/
def ifsF : List Expr → Option (Env → Store → Out Bool)
  | [] => some fun _ S => .ok true S
  | [t] => some fun σ S => R.T fr σ t S
  | _ => none
def lcF1 (elt tg it : Expr) (ifs : List Expr) (scope : Scope) (σ : Env) (S : Store) : Out RV := match ifsF R (frC fr scope) ifs with
  | some ft => if lcOk fr tg it scope then (iterF G R fr tg it σ S).bind fun src S1 => lcS (asgD (frC fr scope) tg) ft (fun σ S => R.E (frC fr scope) σ elt S) (curOf src) (wipeE σ ((ownOf fr scope).map (·.2))) (turnsOf src) 0 [] S1 else .bad
  | none => .bad
def lcF (elt : Expr) (gs : List Comprehension) (scope : Scope) (σ : Env) (S : Store) : Out RV := match gs with
  | [⟨tg, it, ifs, a⟩] => if a = 0 then lcF1 G R fr elt tg it ifs scope σ S else .bad
  | _ => .bad
def optF (o : Option Expr) : Env → Store → Out (Option Int) := match o with
  | none => fun _ S => .ok none S
  | some e => partO fun σ S => R.E fr σ e S
def callE (f : Expr) (es : List Expr) (kws : List Keyword) (pos : Pos) (σ : Env) (S : Store) : Out RV := match f with
  | .Name x _ => match biOf G fr x, es, kws with
    | some o, e :: es, [] => if plainArgs (e :: es) then (evArgs R fr σ (e :: es) S).bind (biO o) else .bad
    | _, es, kws => if isBi G fr x "isinstance" then (match es, kws with
        | [e, .Tuple ts _ _], [] => match clsEs G fr ts with
          | some tys => if isStar e then .bad else (R.E fr σ e S).bind fun rv S1 => isiT G tys rv S1
          | none => .bad
        | [e, e2], [] => match clsE G fr e2 with
          | some t => if isStar e then .bad else (R.E fr σ e S).bind fun rv S1 => isiS G t rv S1
          | none => .bad
        | _, _ => .bad)
      else if isGl fr x && plainArgs es then match G.names.lookup x with
        | some (.fn i) => match kws, G.fns[i]? with
          | [], some fi => if fi.kwo then .bad else (evArgsK R fr σ (flagsOf G i 0) es S).bind fun ws S1 => callX G Rc i es.length ws S1
          | _, _ => .bad
        | some (.cls n) => match kps.find? (fun kp => kp.n == n && kp.m == es.length && decide (kp.ks.map some = kwNames kws)), G.clss[n]? with
          | some kp, some ci => if (G.fns[ci.init]?).isSome then (evArgsK R fr σ (flagsOf G ci.init 1) es S).bind fun ws S1 => (evArgsK R fr σ [] (kwExprs kws) S1).bind fun us S2 => makeK G Rc kp ws us S2 else .bad
          | _, _ => .bad
        | _ => .bad
      else .bad
  | .Attribute o m apos => match kws with
    | [] => if noSuper o && plainArgs es && decide (es.length < 30) && (apos.endLine == pos.line) then (R.E fr σ o S).bind fun v S1 => methO G Rc m es.length (fun i => evArgsK R fr σ (flagsOf G i 1) es) v S1 else .bad
    | _ => .bad
  | _ => .bad
def cmpE (a : Expr) (ops : List CmpOp) (bs : List Expr) (σ : Env) (S : Store) : Out RV := match ops, bs with
  | [op], [b] => if noSet b then (if op = .Eq then (R.E fr σ a S).bind fun v S1 => (R.E fr σ b S1).bind fun u S2 => eqF G Rc v u S2 else cmpF op (fun σ S => R.E fr σ a S) (fun σ S => R.E fr σ b S) σ S) else .bad
  | [op, op'], [b, e] => if noSet e then chainF op op' (fun σ S => R.E fr σ a S) (fun σ S => R.E fr σ b S) (fun σ S => R.E fr σ e S) σ S else .bad
  | _, _ => .bad
def subE (a i : Expr) (σ : Env) (S : Store) : Out RV := match i with
  | .Slice lo hi none _ => (R.E fr σ a S).bind fun v S1 => match optF R fr lo σ S1 with
    | .ok l S2 => match optF R fr hi σ S2 with
      | .ok u S3 => opt ((view S3 v).bind fun x => sliceD x l u) S3
      | .exc n fs S3 => .exc n fs S3
      | .bad => .bad
    | .exc n fs S2 => .exc n fs S2
    | .bad => .bad
  | i => if noSlice i then (R.E fr σ a S).bind fun v S1 => (R.E fr σ i S1).bind fun u S2 => opt (subRV S2 v u) S2 else .bad
def nameE (x : Str) (σ : Env) (S : Store) : Out RV := if isVar fr x then match idx fr.N x with
      | some i => match σ[i]? with | some (some w) => .ok (.w w) S | _ => .bad
      | none => .bad
    else if isGl fr x then match G.names.lookup x with
      | some (.val d) => .ok (.d d) S
      | _ => .bad
    else .bad
def binE (a : Expr) (op : Operator) (b : Expr) (σ : Env) (S : Store) : Out RV := if op = .BitOr then (R.E fr σ a S).bind fun v S1 => (R.E fr σ b S1).bind fun u S2 => orF G Rc v u S2
  else (R.E fr σ a S).bind fun v S1 => (R.E fr σ b S1).bind fun u S2 => match view S2 v, view S2 u with
      | some x, some y => opt (binD op x y) S2
      | _, _ => .bad
def stepE (σ : Env) (e : Expr) (S : Store) : Out RV := match e with
  | .Constant k _ _ => opt ((constD k).map .d) S
  | .Name x _ => nameE G fr x σ S
  | .BinOp a op b _ => binE G R Rc fr a op b σ S
  | .Compare a ops bs _ => cmpE G R Rc fr a ops bs σ S
  | .BoolOp op es _ => boolV (fun e σ S => R.E fr σ e S) σ op es S
  | .UnaryOp op a _ => if op = .Not then (R.E fr σ a S).bind fun v S1 => opt ((truO S1 v).map fun k => .d (.bl (!k))) S1
    else if op = .USub then (R.E fr σ a S).bind fun v S1 => opt ((partI v).map fun i => .d (.int (-i))) S1 else .bad
  | .IfExp t a b _ => (R.T fr σ t S).bind fun k S1 => if k = true then R.E fr σ a S1 else R.E fr σ b S1
  | .Tuple es _ _ => (evArgs R fr σ es S).bind mkTup
  | .List es _ => (evArgs R fr σ es S).bind mkLst
  | .Dict [] [] _ => .ok (.ownd false [] []) S
  | .Subscript a i _ => subE R fr a i σ S
  | .Attribute o f _ => if noSuper o then (R.E fr σ o S).bind fun v S1 => attrO G Rc f v S1 else .bad
  | .Call f es kws pos => callE G kps R Rc fr f es kws pos σ S
  | .ListComp elt gs scope _ => lcF G R fr elt gs scope σ S
  | _ => .bad
def plainT : Expr → Bool
  | .UnaryOp .Not _ _ => false | .BoolOp _ _ _ => false | .IfExp _ _ _ _ => false | .Compare _ _ _ _ => false | _ => true
/-- a test -/
def stepT (σ : Env) (e : Expr) (S : Store) : Out Bool := match e with
  | .UnaryOp .Not a _ => (R.T fr σ a S).bind fun k S1 => .ok (!k) S1
  | .BoolOp op es _ => if es.isEmpty then .bad else boolT (fun e σ S => R.T fr σ e S) σ op es S
  | .Compare a ops bs _ => (cmpE G R Rc fr a ops bs σ S).bind fun v S1 => match asB v with | some k => .ok k S1 | none => .bad
  | e => if plainT e then (R.E fr σ e S).bind fun v S1 => match truO S1 v with | some k => .ok k S1 | none => .bad else .bad
/-- a statement -/
def asgN (x : Str) (e : Expr) (σ : Env) (S : Store) : SOut := if isLoc fr x && (idx fr.N x).isSome then match e with
    | .ListComp elt gs scope _ => liftS (lcF G R fr elt gs scope σ S) σ fun rv S1 => setN fr x rv σ S1
    | e => if noComp e then liftS (R.E fr σ e S) σ fun rv S1 => setN fr x rv σ S1 else .bad
  else .bad
def swOk2 (x y : Str) (px py : Pos) (a b : Expr) : Bool := loc1 fr x && loc1 fr y && (py.line == px.line) && decide (x ≠ y) && isTupS (.Tuple [a, b] 0 px) && (idx fr.N x).isSome && (idx fr.N y).isSome
def swOk3 (x y z : Str) (px py pz : Pos) (a b d : Expr) : Bool := loc1 fr x && loc1 fr y && loc1 fr z && (py.line == px.line) && (pz.line == px.line) && decide (x ≠ y) && decide (x ≠ z) && decide (y ≠ z) && isTupS (.Tuple [a, b, d] 0 px) && (idx fr.N x).isSome && (idx fr.N y).isSome && (idx fr.N z).isSome
def noLc : Expr → Bool
  | .ListComp _ _ _ _ => false | .SetComp _ _ _ _ => false | .DictComp _ _ _ _ _ => false | _ => true
def offL (fr : Fr) (ts : List Expr) : Bool := ts.any fun t => match t with
  | .Name x _ => !loc1 fr x
  | _ => true
def asgG (ts : List Expr) (k : Nat) (tp : Pos) (e : Expr) (σ : Env) (S : Store) : SOut := if tgOk (.Tuple ts k tp) && (!isTupX e || offL fr ts) then liftS (R.E fr σ e S) σ fun rv S1 => asgS fr (.Tuple ts k tp) rv σ S1 else .bad
def asgU (ts : List Expr) (k : Nat) (tp : Pos) (e : Expr) (σ : Env) (S : Store) : SOut := match ts, e with
  | [.Name x px, .Name y py], .Tuple [a, b] k2 p2 => if swOk2 fr x y px py a b then liftS (evArgsK R fr σ (flg fr [x, y]) [a, b] S) σ fun ws S1 => par2 fr x y ws σ S1 else asgG R fr [.Name x px, .Name y py] k tp (.Tuple [a, b] k2 p2) σ S
  | [.Name x px, .Name y py, .Name z pz], .Tuple [a, b, d] k2 p2 => if swOk3 fr x y z px py pz a b d then liftS (evArgsK R fr σ (flg fr [x, y, z]) [a, b, d] S) σ fun ws S1 => par3 fr x y z ws σ S1 else asgG R fr [.Name x px, .Name y py, .Name z pz] k tp (.Tuple [a, b, d] k2 p2) σ S
  | ts, e => asgG R fr ts k tp e σ S
def asgE (t e : Expr) (σ : Env) (S : Store) : SOut := match t with
  | .Name x _ => asgN G R fr x e σ S
  | .Tuple ts k tp => asgU R fr ts k tp e σ S
  | .Attribute o f _ => if noLc e then liftS (R.E fr σ e S) σ fun rv S1 => liftS (R.E fr σ o (keepW (fr.cells.contains f) rv S1).2) σ fun ov S2 => match setF G f (keepW (fr.cells.contains f) rv S1).1 ov S2 with
      | some S3 => .nx σ S3
      | none => .bad
    else .bad
  | .Subscript o i _ => if noSlice i && noLc e then liftS (R.E fr σ e S) σ fun rv S1 => liftS (R.E fr σ o S1) σ fun ov S2 => liftS (R.E fr σ i S2) σ fun iv S3 => match setI iv rv.toW ov S3 with
      | some S4 => .nx σ S4
      | none => .bad
    else .bad
  | _ => .bad
def augT (t : Expr) (op : Operator) (e : Expr) (σ : Env) (S : Store) : SOut := match t with
    | .Name x _ => if isLoc fr x then match idx fr.N x with
      | some i => match σ[i]? with
        | some (some w) => liftS (R.E fr σ e S) σ fun rv S1 => match augI op (.w w) rv with
          | some r => .nx (σ.set i (some r.toW)) S1
          | none => .bad
        | _ => .bad
      | none => .bad
      else .bad
    | .Attribute o f _ => liftS (R.E fr σ o S) σ fun ov S1 => match fldW G f ov S1 with
      | some w => liftS (R.E fr σ e S1) σ fun rv S2 => match augI op (.w w) rv with
        | some r => augE G f ov r σ S1 S2
        | none => .bad
      | none => .bad
    | _ => .bad
def augS (t : Expr) (op : Operator) (e : Expr) (σ : Env) (S : Store) : SOut := if op = .Add ∨ op = .Sub then augT G R fr t op e σ S else .bad
def stepS (st : Stmt) (σ : Env) (S : Store) : SOut := match st with
  | .Return (some e) _ => liftS (R.E fr σ e S) σ fun rv S1 => .rt rv S1
  | .Return none _ => .rt (.d .non) S
  | .Assign [t] e _ => asgE G R fr t e σ S
  | .AugAssign t op e _ => augS G R fr t op e σ S
  | .Expr e _ => if noComp e then liftS (R.E fr σ e S) σ fun _ S1 => .nx σ S1 else .bad
  | .Pass _ => .nx σ S
  | .Break _ => .bk σ S
  | .Continue _ => .ct σ S
  | .If t x y _ => liftS (R.T fr σ t S) σ fun b S1 => if b = true then R.B fr σ x S1 else R.B fr σ y S1
  | .For tg it body [] _ => if tgOk tg && noSet it then liftS (iterF G R fr tg it σ S) σ fun src S1 => forS (asgD fr tg) (fun σ S => R.B fr σ body S) (curOf src) (turnsOf src) 0 σ S1 else .bad
  | .Raise (some e) none _ => raiseS G R fr e σ S
  | .Try body hds [] [] _ => tryS G R fr body hds σ S
  | .While t body [] _ => whileS (fun σ S => R.T fr σ t S) (fun σ S => R.B fr σ body S) line σ S
  | _ => .bad
def stepB (σ : Env) (sts : List Stmt) (S : Store) : SOut := blockS (fun st σ S => stepS G R fr st σ S) sts σ S
end
def bot : Rec := ⟨fun _ _ _ _ => .bad, fun _ _ _ _ => .bad, fun _ _ _ _ => .bad⟩
/-- calls go by Rc -/
def step (G : Gm) (kps : List KP) (Rc R : Rec) : Rec := ⟨fun fr σ e S => stepE G kps R Rc fr σ e S, fun fr σ e S => stepT G R Rc fr σ e S, fun fr σ sts S => stepB G R fr σ sts S⟩
/-- over so deep a text -/
def evS (G : Gm) (kps : List KP) (Rc : Rec) : Nat → Rec
  | 0 => bot
  | n + 1 => step G kps Rc (evS G kps Rc n)
/-- calls so deep -/
def ev (G : Gm) (kps : List KP) : Nat → Rec
  | 0 => bot
  | n + 1 => evS G kps (ev G kps n) 64
end Ev
set_option linter.all false
set_option maxHeartbeats 4000000
namespace Ev
open PySem L2

/-! ## the step is sound -/
/-- what is known of the text and the place -/
structure Txt where
  c : Cs
  G : Gm
  kps : List KP
  P : PySem.Program
  w : PySem.World
  mg : Str → Option Value
  base : Heap
  fa : Nat → Addr
  fd : Nat → FuncData
  dV : Nat → List Value
structure Txt.Ok (T : Txt) : Prop where
  gs : GS T.c T.G T.mg T.fa T.fd T.dV
  gi : GI T.c T.G
  gk : GK T.c T.G T.kps T.fd
  gx : GX T.P T.c T.G T.mg
  ge : GE T.c T.G
/-- a context of this text -/
structure CtxOk (T : Txt) (fr : Fr) (X : Cx) (Wx : WX) (k : Nat) : Prop where
  ok : XOk T.c T.G fr X
  tk : Takes X Wx
  po : PassesOwn (model X.prog X.w) X.A X.env X.xe
  eP : X.prog = T.P
  ew : X.w = T.w
  em : X.mg = T.mg
  eb : X.base = T.base
  room : Room k X.A
  sf : fr.cap.isEmpty = true → X.stack = X.env :: X.outer ∧ X.env.frame = some X.env.locals
def RecOk (T : Txt) (R : Rec) (k : Nat) : Prop := ∀ (fr : Fr) (X : Cx) (Wx : WX), CtxOk T fr X Wx k →
  (∀ e, PE X e (tE T.c (xwOf T.c Wx) fun σ S => R.E fr σ e S)) ∧ (∀ e, PT X e (tB T.c (xwOf T.c Wx) fun σ S => R.T fr σ e S)) ∧ ∀ sts, PSs X sts (tS T.c Wx fun σ S => R.B fr σ sts S)
def FnsK (T : Txt) (R : Rec) (k : Nat) : Prop := FnsOk T.c T.G R T.P T.w T.mg T.base k T.fa T.fd
theorem CtxOk.mono {T : Txt} {fr : Fr} {X : Cx} {Wx : WX} {j k : Nat} (h : CtxOk T fr X Wx k) (l : j ≤ k) : CtxOk T fr X Wx j := ⟨h.ok, h.tk, h.po, h.eP, h.ew, h.em, h.eb, h.room.mono l, h.sf⟩
theorem CtxOk.blk {T : Txt} {fr : Fr} {X : Cx} {Wx : WX} {k : Nat} (h : CtxOk T fr X Wx k) {scope : Scope} (hu : ∀ y ∈ scope.names, scope.names.lookup y.1 = some y.2) (s : Shared) (H : Hp) (C : Addr) (cl : List (Str × Addr)) (fp : List Addr) :
    CtxOk T (frC fr scope) (X.blk s H scope (compEnvC scope cl C X.env) fp) WF k := ⟨blk_ok h.ok hu, takesF, PassesOwn.never, h.eP, h.ew, h.em, h.eb, h.room, fun e => Bool.noConfusion (show false = true from e)⟩
theorem CtxOk.tr {T : Txt} {fr : Fr} {X : Cx} {Wx W : WX} {k : Nat} (h : CtxOk T fr X Wx k) {pn : List (Addr × Obj)} {xe : Value → Shared → Prop} (tk : Takes (X.tr pn xe) W) (po : PassesOwn (model X.prog X.w) X.A X.env xe) : CtxOk T fr (X.tr pn xe) W k :=
  ⟨⟨h.ok.N, h.ok.sc, h.ok.K, h.ok.nd, h.ok.calm, h.ok.hu, h.ok.fnm, h.ok.glv, h.ok.bi⟩, tk, po, h.eP, h.ew, h.em, h.eb, h.room, h.sf⟩
section
variable {T : Txt} {R Rc : Rec} {fr : Fr} {X : Cx} {Wx : WX} {k : Nat}
theorem pt_eq {e : Expr} {c : Cs} {Xw : XW} {f g : Env → Store → Out Bool} (h : PT X e (tB c Xw f)) (i : ∀ σ S, g σ S = f σ S) : PT X e (tB c Xw g) := by
  have : g = f := funext fun σ => funext fun S => i σ S
  rw [this]
  exact h
theorem pi_eq {tg it : Expr} {c : Cs} {Xw : XW} {f g : Env → Store → Out Src} (h : PI X tg it (tI c Xw f)) (i : ∀ σ S, g σ S = f σ S) : PI X tg it (tI c Xw g) := by
  have : g = f := funext fun σ => funext fun S => i σ S
  rw [this]
  exact h
theorem ps_eq {st : Stmt} {c : Cs} {f g : Env → Store → SOut} (h : PS X st (tS c Wx f)) (i : ∀ σ S, g σ S = f σ S) : PS X st (tS c Wx g) := by
  have : g = f := funext fun σ => funext fun S => i σ S
  rw [this]
  exact h
theorem pt_bad {e : Expr} {c : Cs} {Xw : XW} : PT X e (tB c Xw fun _ _ => .bad) := ⟨fun pins s τ H Q I h => by
  obtain ⟨σ, S, F, ρ, a, q⟩ := h
  exact q.elim⟩
theorem je_ite {e : Expr} {c : Cs} {Xw : XW} {b : Bool} {f g : Env → Store → Out RV} (h1 : b = true → PE X e (tE c Xw f)) (h2 : b = false → PE X e (tE c Xw g)) : PE X e (tE c Xw fun σ S => if b = true then f σ S else g σ S) := by
  cases b with
  | true => exact h1 rfl
  | false => exact h2 rfl
theorem js_ite {st : Stmt} {c : Cs} {b : Bool} {f g : Env → Store → SOut} (h1 : b = true → PS X st (tS c Wx f)) (h2 : b = false → PS X st (tS c Wx g)) : PS X st (tS c Wx fun σ S => if b = true then f σ S else g σ S) := by
  cases b with
  | true => exact h1 rfl
  | false => exact h2 rfl
theorem js_guard {st : Stmt} {c : Cs} {b : Bool} {f : Env → Store → SOut} (h1 : b = true → PS X st (tS c Wx f)) : PS X st (tS c Wx fun σ S => if b = true then f σ S else .bad) := js_ite h1 fun _ => js_bad
theorem je_guard {e : Expr} {c : Cs} {Xw : XW} {b : Bool} {f : Env → Store → Out RV} (h1 : b = true → PE X e (tE c Xw f)) : PE X e (tE c Xw fun σ S => if b = true then f σ S else .bad) := je_ite h1 fun _ => je_bad

/-! ### what is walked -/
theorem s_iter (cx : CtxOk T fr X Wx k) (hE : ∀ e, PE X e (tE T.c (xwOf T.c Wx) fun σ S => R.E fr σ e S)) (tg it : Expr) : PI X tg it (tI T.c (xwOf T.c Wx) fun σ S => iterF T.G R fr tg it σ S) := by
  have ok := cx.ok
  have any : PI X tg it (tI T.c (xwOf T.c Wx) fun σ S => (R.E fr σ it S).bind fun v S1 => optS (srcO v S1) S1) := ji_any ok (hE it)
  unfold iterF
  split
  · rename_i x p e p2
    by_cases h1 : (isBi T.G fr x "enumerate" && isTupE tg && plainArgs [e]) = true
    · refine pi_eq (ji_en ok (by simp_all) (by simp_all) (by simp_all) (ja_args hE [e])) fun σ S => by rw [if_pos h1]
    · by_cases h2 : (isBi T.G fr x "range" && plainArgs [e]) = true
      · refine pi_eq (ji_rg1 ok (by simp_all) (by simp_all) (ja_args hE [e])) fun σ S => by rw [if_neg h1, if_pos h2]; try rfl
      · exact pi_eq any fun σ S => by rw [if_neg h1, if_neg h2]
  · rename_i x p e e2 p2
    by_cases h1 : (isBi T.G fr x "zip" && isTupE tg && plainArgs [e, e2]) = true
    · refine pi_eq (ji_zp ok (by simp_all) (by simp_all) (by simp_all) (ja_args hE [e, e2])) fun σ S => by rw [if_pos h1]
    · by_cases h2 : (isBi T.G fr x "range" && plainArgs [e, e2]) = true
      · refine pi_eq (ji_rg2 ok (by simp_all) (by simp_all) (ja_args hE [e, e2])) fun σ S => by rw [if_neg h1, if_pos h2]; try rfl
      · exact pi_eq any fun σ S => by rw [if_neg h1, if_neg h2]
  · exact any
/-- a comprehension -/
theorem s_lc (cx : CtxOk T fr X Wx k) (rec : RecOk T R k) {elt : Expr} {gs : List Comprehension} {scope : Scope} {pos : Pos} : PE X (.ListComp elt gs scope pos) (tE T.c (xwOf T.c Wx) fun σ S => lcF T.G R fr elt gs scope σ S) ∧
    ∀ (y : Str) (py spos : Pos) (iy : Nat), isLoc fr y = true → idx fr.N y = some iy → PS X (.Assign [.Name y py] (.ListComp elt gs scope pos) spos) (tS T.c Wx fun σ S => liftS (lcF T.G R fr elt gs scope σ S) σ fun rv S1 => setN fr y rv σ S1) := by
  have bad : lcF T.G R fr elt gs scope = (fun _ _ => .bad) → PE X (.ListComp elt gs scope pos) (tE T.c (xwOf T.c Wx) fun σ S => lcF T.G R fr elt gs scope σ S) ∧
    ∀ (y : Str) (py spos : Pos) (iy : Nat), isLoc fr y = true → idx fr.N y = some iy → PS X (.Assign [.Name y py] (.ListComp elt gs scope pos) spos) (tS T.c Wx fun σ S => liftS (lcF T.G R fr elt gs scope σ S) σ fun rv S1 => setN fr y rv σ S1) := fun e => by
    rw [e]
    exact ⟨je_bad, fun _ _ _ _ _ _ => js_bad⟩
  cases gs with
  | nil => exact bad rfl
  | cons g r =>
    obtain ⟨tg, it, ifs, n⟩ := g
    cases r with
    | cons g' r' => exact bad rfl
    | nil =>
      by_cases hn : n = 0
      case neg => exact bad (by funext σ S; unfold lcF; dsimp only; rw [if_neg hn])
      · subst hn
        have key : ∀ ft, ifsF R (frC fr scope) ifs = some ft → lcOk fr tg it scope = true → (∀ (s : Shared) (H : Hp) (C : Addr) (cl : List (Str × Addr)) (fp : List Addr), PTs (X.blk s H scope (compEnvC scope cl C X.env) fp) ifs (tB T.c (xwOf T.c WF) ft)) ∧ ∀ (s : Shared) (H : Hp) (C : Addr) (cl : List (Str × Addr)) (fp : List Addr), PE (X.blk s H scope (compEnvC scope cl C X.env) fp) elt (tE T.c (xwOf T.c WF) fun σ S => R.E (frC fr scope) σ elt S) := by
          intro ft hft hok
          have hu : ∀ y ∈ scope.names, scope.names.lookup y.1 = some y.2 := by
            unfold lcOk at hok
            simp only [Bool.and_eq_true] at hok
            exact (blkOk_by hok.1.1.1).uniq
          refine ⟨fun s H C cl fp => ?_, fun s H C cl fp => (rec _ _ _ (cx.blk hu s H C cl fp)).1 elt⟩
          unfold ifsF at hft
          split at hft
          · cases hft
            refine ⟨fun pins s' τ H' Q I q => pts_nil.run pins s' τ H' Q I ?_⟩
            obtain ⟨σ, S, F, ρ, a, q⟩ := q
            exact QO.now (Xw := xwOf T.c WF) a.st q
          · cases hft
            exact pts_one ((rec _ _ _ (cx.blk hu s H C cl fp)).2.1 _)
          · cases hft
        cases hft : ifsF R (frC fr scope) ifs with
        | none => exact bad (by funext σ S; unfold lcF lcF1; dsimp only; rw [if_pos rfl, hft])
        | some ft =>
          by_cases hok : lcOk fr tg it scope = true
          · obtain ⟨k1, k2⟩ := key ft hft hok
            have e : lcF T.G R fr elt [⟨tg, it, ifs, 0⟩] scope = fun σ S => (iterF T.G R fr tg it σ S).bind fun src S1 => lcS (asgD (frC fr scope) tg) ft (fun σ S => R.E (frC fr scope) σ elt S) (curOf src) (wipeE σ ((ownOf fr scope).map (·.2))) (turnsOf src) 0 [] S1 := by
              funext σ S
              unfold lcF lcF1
              dsimp only
              rw [if_pos rfl, hft]
              dsimp only
              rw [if_pos hok]
            rw [e]
            unfold lcOk at hok
            simp only [Bool.and_eq_true] at hok
            obtain ⟨⟨⟨h1, h2⟩, h3⟩, h4⟩ := hok
            have hi := s_iter cx (rec fr X Wx cx).1 tg it
            exact ⟨je_lc cx.ok h1 h2 h3 h4 hi k1 k2, fun y py spos iy hl hiy => js_setLc cx.ok hl hiy h1 h2 h3 h4 hi k1 k2⟩
          · exact bad (by funext σ S; unfold lcF lcF1; dsimp only; rw [if_pos rfl, hft]; dsimp only; rw [if_neg hok])
/-! ### expressions -/
theorem s_opt (hE : ∀ e, PE X e (tE T.c (xwOf T.c Wx) fun σ S => R.E fr σ e S)) (o : Option Expr) : PO X o (tO T.c (xwOf T.c Wx) (optF R fr o)) := by
  cases o with
  | none => exact jo_none
  | some e => exact jo_some (hE e)
theorem s_call (tx : T.Ok) (cx : CtxOk T fr X Wx (k + 1)) (hF : FnsK T Rc k) (hE : ∀ e, PE X e (tE T.c (xwOf T.c Wx) fun σ S => R.E fr σ e S)) (f : Expr) (es : List Expr) (kws : List Keyword) (pos : Pos) :
    PE X (.Call f es kws pos) (tE T.c (xwOf T.c Wx) fun σ S => callE T.G T.kps R Rc fr f es kws pos σ S) := by
  have ok := cx.ok
  have gs : GS T.c T.G X.mg T.fa T.fd T.dV := by rw [cx.em]; exact tx.gs
  have hF' : FnsOk T.c T.G Rc X.prog X.w X.mg X.base k T.fa T.fd := by rw [cx.eP, cx.ew, cx.em, cx.eb]; exact hF
  have hr : Room k X.A := cx.room.mono (Nat.le_succ _)
  unfold callE
  split
  · rename_i x p
    split
    · rename_i o e es' ho
      exact je_guard fun hp => je_bi ok ho hp (ja_args hE (e :: es'))
    · rename_i es' kws' _
      refine je_ite (fun hb => ?_) fun hb => ?_
      · split
        · rename_i e ts k' p2
          split
          · rename_i tys ht
            exact je_ite (fun _ => je_bad) fun hs => je_isiT ok tx.gi gs.mgc hb ht hs (hE _)
          · exact je_bad
        · rename_i e e2 _
          split
          · rename_i t ht
            exact je_ite (fun _ => je_bad) fun hs => je_isi ok tx.gi gs.mgc hb ht hs (hE _)
          · exact je_bad
        · exact je_bad
      · refine je_guard fun hg => ?_
        rw [Bool.and_eq_true] at hg
        split
        · rename_i i hx
          split
          · rename_i fi hi
            exact je_ite (fun _ => je_bad) fun hk => je_call ok gs cx.tk hF' hr hg.1 hx (by assumption) hk _ hg.2 hE
          · exact je_bad
        · rename_i n hx
          split
          · rename_i kp ci hkp hci
            have m1 := List.mem_of_find?_eq_some hkp
            have m2 := List.find?_some hkp
            simp only [Bool.and_eq_true, beq_iff_eq, decide_eq_true_eq] at m2
            cases hi : T.G.fns[ci.init]? with
            | none =>
              exact je_bad
            | some fi =>
              exact je_makeK ok gs cx.tk hF' cx.room tx.gk hg.1 hx hci hi m1 m2.1.1 hg.2 m2.1.2.symm m2.2.symm _ _ hE
          · exact je_bad
        · exact je_bad
  · rename_i o m apos
    split
    · refine je_guard fun hg => ?_
      simp only [Bool.and_eq_true, decide_eq_true_eq] at hg
      refine ⟨fun pins s τ H Q I h => ?_⟩
      obtain ⟨σ, S, F, ρ, a, q⟩ := tE_un h
      exact run_meth ok gs cx.tk hF' hr hE hg.1.1.1 hg.1.1.2 hg.1.2 hg.2 I (hE o) a q
    · exact je_bad
  · exact je_bad
theorem s_cmp (tx : T.Ok) (cx : CtxOk T fr X Wx (k + 1)) (hF : FnsK T Rc k) (hE : ∀ e, PE X e (tE T.c (xwOf T.c Wx) fun σ S => R.E fr σ e S)) (a : Expr) (ops : List CmpOp) (bs : List Expr) (pos : Pos) :
    PE X (.Compare a ops bs pos) (tE T.c (xwOf T.c Wx) fun σ S => cmpE T.G R Rc fr a ops bs σ S) := by
  have ok := cx.ok
  have gs : GS T.c T.G X.mg T.fa T.fd T.dV := by rw [cx.em]; exact tx.gs
  have hF' : FnsOk T.c T.G Rc X.prog X.w X.mg X.base k T.fa T.fd := by rw [cx.eP, cx.ew, cx.em, cx.eb]; exact hF
  have hr : Room k X.A := cx.room.mono (Nat.le_succ _)
  have hu : X.A.units + 65 < cLine := by
    have := hr.un
    omega
  unfold cmpE
  split
  · rename_i op b
    refine je_guard fun hn => ?_
    by_cases he : op = .Eq
    · subst he
      exact je_eq (je_eqO ok gs tx.gi hF' hr (hE a) (hE b) hn) fun σ S => by rw [if_pos rfl]
    · exact je_eq (je_cmp ok.K hu (hE a) (hE b) hn) fun σ S => by rw [if_neg he]
  · rename_i op op' b e
    exact je_guard fun hn => je_chain ok.K hu (hE a) (hE b) (hE e) hn
  · exact je_bad
theorem s_expr (tx : T.Ok) (cx : CtxOk T fr X Wx (k + 1)) (hF : FnsK T Rc k) (rec : RecOk T R (k + 1)) (e : Expr) : PE X e (tE T.c (xwOf T.c Wx) fun σ S => stepE T.G T.kps R Rc fr σ e S) := by
  have ok := cx.ok
  have gs : GS T.c T.G X.mg T.fa T.fd T.dV := by rw [cx.em]; exact tx.gs
  have hF' : FnsOk T.c T.G Rc X.prog X.w X.mg X.base k T.fa T.fd := by rw [cx.eP, cx.ew, cx.em, cx.eb]; exact hF
  have hr : Room k X.A := cx.room.mono (Nat.le_succ _)
  obtain ⟨hE, hT, hB⟩ := rec fr X Wx cx
  have hu : X.A.units + 1 < cLine := by
    have := hr.un
    omega
  unfold stepE
  split
  · exact je_const
  · rename_i x p
    unfold nameE
    by_cases hv : isVar fr x = true
    · cases hi : idx fr.N x with
      | none => exact je_eq je_bad fun σ S => by rw [if_pos hv]
      | some i => exact je_eq (je_var ok hv hi) fun σ S => by rw [if_pos hv]; try rfl
    · by_cases hg : isGl fr x = true
      · cases hx : T.G.names.lookup x with
        | none => exact je_eq je_bad fun σ S => by rw [if_neg hv, if_pos hg]
        | some gv =>
          cases gv with
          | val d => exact je_eq (je_glob ok hg hx) fun σ S => by rw [if_neg hv, if_pos hg]
          | fn i => exact je_eq je_bad fun σ S => by rw [if_neg hv, if_pos hg]
          | cls i => exact je_eq je_bad fun σ S => by rw [if_neg hv, if_pos hg]
          | exc i => exact je_eq je_bad fun σ S => by rw [if_neg hv, if_pos hg]
      · exact je_eq je_bad fun σ S => by rw [if_neg hv, if_neg hg]
  · rename_i a op b p
    unfold binE
    by_cases ho : op = .BitOr
    · subst ho
      exact je_eq (je_orO ok gs tx.gi cx.tk hF' hr (hE a) (hE b)) fun σ S => by rw [if_pos rfl]
    · exact je_eq (je_bin ok.K (hE a) (hE b)) fun σ S => by rw [if_neg ho]; try rfl
  · exact s_cmp tx cx hF hE _ _ _ _
  · exact je_boolop hE _
  · rename_i op a p
    by_cases h1 : op = .Not
    · subst h1
      exact je_eq (je_not (hE a)) fun σ S => by rw [if_pos rfl]
    · by_cases h2 : op = .USub
      · subst h2
        exact je_eq (je_neg (hE a)) fun σ S => by rw [if_neg h1, if_pos rfl]
      · exact je_eq je_bad fun σ S => by rw [if_neg h1, if_neg h2]
  · exact je_if (hT _) (hE _) (hE _)
  · exact je_tup (ja_args hE _)
  · exact je_lst (ja_args hE _)
  · exact je_dict0
  · rename_i a i p
    unfold subE
    split
    · rename_i lo hi p2
      exact je_slice (hE a) (s_opt hE lo) (s_opt hE hi)
    · exact je_guard fun hn => je_sub ok.K hu (hE a) (hE _) hn
  · exact je_guard fun hs => je_attr ok gs cx.tk hF' cx.room hs (hE _)
  · exact s_call tx cx hF hE _ _ _ _
  · exact (s_lc cx rec).1
  · exact je_bad
theorem s_test (tx : T.Ok) (cx : CtxOk T fr X Wx (k + 1)) (hF : FnsK T Rc k) (rec : RecOk T R (k + 1)) (e : Expr) : PT X e (tB T.c (xwOf T.c Wx) fun σ S => stepT T.G R Rc fr σ e S) := by
  have ok := cx.ok
  obtain ⟨hE, hT, hB⟩ := rec fr X Wx cx
  unfold stepT
  split
  · exact jt_not (hT _)
  · rename_i op es p
    cases es with
    | nil => exact pt_bad
    | cons e es => exact (jt_boolop hT (e :: es) (by simp)).pt
  · rename_i a ops bs p
    have gs : GS T.c T.G X.mg T.fa T.fd T.dV := by rw [cx.em]; exact tx.gs
    have hF' : FnsOk T.c T.G Rc X.prog X.w X.mg X.base k T.fa T.fd := by rw [cx.eP, cx.ew, cx.em, cx.eb]; exact hF
    have hr : Room k X.A := cx.room.mono (Nat.le_succ _)
    have hu : X.A.units + 65 < cLine := by
      have := hr.un
      omega
    unfold cmpE
    split
    · rename_i op b
      by_cases hn : noSet b = true
      · by_cases he : op = .Eq
        · subst he
          exact pt_eq (jt_eqO ok gs tx.gi hF' hr (hE a) (hE b) hn) fun σ S => by rw [if_pos hn, if_pos rfl]; try rfl
        · exact pt_eq (jt_cmp ok.K hu (hE a) (hE b) hn) fun σ S => by rw [if_pos hn, if_neg he]; try rfl
      · exact pt_eq pt_bad fun σ S => by rw [if_neg hn]; try rfl
    · rename_i op op' b e
      by_cases hn : noSet e = true
      · exact pt_eq (jt_chain ok.K hu (hE a) (hE b) (hE e) hn) fun σ S => by rw [if_pos hn]; try rfl
      · exact pt_eq pt_bad fun σ S => by rw [if_neg hn]; try rfl
    · exact pt_bad
  · by_cases hp : plainT e = true
    · refine pt_eq (jt_truth (hE e) fun whole => ?_) fun σ S => by rw [if_pos hp]; try rfl
      cases e with
      | UnaryOp op a p => cases op <;> first | rfl | cases hp
      | BoolOp _ _ _ => cases hp
      | IfExp _ _ _ _ => cases hp
      | Compare _ _ _ _ => cases hp
      | _ => rfl
    · exact pt_eq pt_bad fun σ S => by rw [if_neg hp]
/-! ### statements -/
theorem noLc_swaps {e t : Expr} {l : Nat} {env : PySem.Env} (h : noLc e = true) : swapsWith e (some t) l env = pure false := by
  cases e <;> first | rfl | cases h
theorem tup_swaps {e : Expr} {ts : List Expr} {k l : Nat} {tp : Pos} {env : PySem.Env} : swapsWith e (some (.Tuple ts k tp)) l env = pure false := by
  cases e <;> rfl
theorem noLc_comp {e : Expr} (h : noLc e = true) : noComp e = true := by
  cases e <;> first | rfl | cases h
theorem noSwapC {c : Cs} {G : Gm} (ok : XOk c G fr X) {ts vs : List Expr} {k kk : Nat} {tp vp : Pos} (h : offL fr ts = true) : swappedStores [.Tuple ts k tp] (.Tuple vs kk vp) X.env = pure none := by
  unfold swappedStores
  dsimp only
  split
  · rfl
  · split
    · rfl
    · split
      · rfl
      · rename_i hn
        exfalso
        apply hn
        rw [Bool.or_eq_true]
        left
        rw [bne_iff_ne]
        intro he
        unfold offL at h
        rw [List.any_eq_true] at h
        obtain ⟨t, ht, hx⟩ := h
        have all := List.filterMap_length_eq_length.mp he t ht
        cases t with
        | Name x p =>
          dsimp only at hx all
          rw [Bool.not_eq_true'] at hx
          unfold loc1 at hx
          have hx := of_decide_eq_false hx
          rw [← ok.sc] at hx
          split at all
          · rename_i hc
            rw [Bool.and_eq_true, beq_iff_eq] at hc
            exact hx hc.1
          · cases all
        | _ => cases all
theorem s_asgG (tx : T.Ok) (cx : CtxOk T fr X Wx (k + 1)) (rec : RecOk T R (k + 1)) (ts : List Expr) (kk : Nat) (tp : Pos) (e : Expr) (pos : Pos) : PS X (.Assign [.Tuple ts kk tp] e pos) (tS T.c Wx fun σ S => asgG R fr ts kk tp e σ S) := by
  have ok := cx.ok
  obtain ⟨hE, hT, hB⟩ := rec fr X Wx cx
  unfold asgG
  refine js_guard fun hg => ?_
  rw [Bool.and_eq_true, Bool.or_eq_true, Bool.not_eq_true'] at hg
  refine js_asgT ok hg.1 ?_ tup_swaps (hE _)
  rcases hg.2 with h | h
  · exact noSwap h
  · by_cases hx : isTupX e = false
    · exact noSwap hx
    · cases e with
      | Tuple vs k2 p2 => exact noSwapC ok h
      | _ => exact absurd rfl hx
theorem s_asg (tx : T.Ok) (cx : CtxOk T fr X Wx (k + 1)) (rec : RecOk T R (k + 1)) (t e : Expr) (pos : Pos) : PS X (.Assign [t] e pos) (tS T.c Wx fun σ S => asgE T.G R fr t e σ S) := by
  have ok := cx.ok
  have gs : GS T.c T.G X.mg T.fa T.fd T.dV := by rw [cx.em]; exact tx.gs
  obtain ⟨hE, hT, hB⟩ := rec fr X Wx cx
  unfold asgE
  split
  · rename_i x p
    unfold asgN
    refine js_guard fun hg => ?_
    rw [Bool.and_eq_true] at hg
    obtain ⟨i, hi⟩ := Option.isSome_iff_exists.mp hg.2
    split
    · exact (s_lc cx rec).2 x p pos i hg.1 hi
    · exact js_guard fun hn => js_set ok (hE _) hn hg.1 hi
  · rename_i ts kk tp
    unfold asgU
    split
    · rename_i x px y py a b k2 p2
      refine js_ite (fun hg => ?_) fun _ => s_asgG tx cx rec _ _ _ _ _
      unfold swOk2 at hg
      simp only [Bool.and_eq_true, decide_eq_true_eq] at hg
      obtain ⟨⟨⟨⟨⟨⟨h1, h2⟩, h3⟩, h4⟩, h5⟩, h6⟩, h7⟩ := hg
      obtain ⟨i, hi⟩ := Option.isSome_iff_exists.mp h6
      obtain ⟨j, hj⟩ := Option.isSome_iff_exists.mp h7
      exact js_par2 ok hE h1 h2 h3 h4 h5 hi hj
    · rename_i x px y py z pz a b d k2 p2
      refine js_ite (fun hg => ?_) fun _ => s_asgG tx cx rec _ _ _ _ _
      unfold swOk3 at hg
      simp only [Bool.and_eq_true, decide_eq_true_eq] at hg
      obtain ⟨⟨⟨⟨⟨⟨⟨⟨⟨⟨⟨h1, h2⟩, h2'⟩, h3⟩, h3'⟩, h4⟩, h4'⟩, h4''⟩, h5⟩, h6⟩, h7⟩, h8⟩ := hg
      obtain ⟨i, hi⟩ := Option.isSome_iff_exists.mp h6
      obtain ⟨j, hj⟩ := Option.isSome_iff_exists.mp h7
      obtain ⟨l, hl⟩ := Option.isSome_iff_exists.mp h8
      exact js_par3 ok hE h1 h2 h2' h3 h3' h4 h4' h4'' h5 hi hj hl
    · exact s_asgG tx cx rec _ _ _ _ _
  · rename_i o f p
    refine js_guard fun hg => ?_
    exact js_fld ok gs (hE o) (hE e) (noLc_swaps hg) _
  · rename_i o i p
    refine js_guard fun hg => ?_
    rw [Bool.and_eq_true] at hg
    refine js_sub ok (hE o) (hE i) (hE e) hg.1 (noLc_swaps hg.2) ?_
    unfold swappedStores
    rfl
  · exact js_bad
theorem s_aug (tx : T.Ok) (cx : CtxOk T fr X Wx (k + 1)) (rec : RecOk T R (k + 1)) (t : Expr) (op : Operator) (e : Expr) (pos : Pos) : PS X (.AugAssign t op e pos) (tS T.c Wx fun σ S => augS T.G R fr t op e σ S) := by
  have ok := cx.ok
  have gs : GS T.c T.G X.mg T.fa T.fd T.dV := by rw [cx.em]; exact tx.gs
  obtain ⟨hE, hT, hB⟩ := rec fr X Wx cx
  by_cases hop : op = .Add ∨ op = .Sub
  case neg => exact ps_eq js_bad fun σ S => by unfold augS; rw [if_neg hop]
  refine ps_eq (f := fun σ S => augT T.G R fr t op e σ S) ?_ fun σ S => by unfold augS; rw [if_pos hop]
  unfold augT
  split
  · rename_i x p
    by_cases hl : isLoc fr x = true
    · cases hi : idx fr.N x with
      | none => exact ps_eq js_bad fun σ S => by rw [if_pos hl]
      | some i => exact ps_eq (js_aug ok hl hi hop (hE e)) fun σ S => by rw [if_pos hl]; try rfl
    · exact ps_eq js_bad fun σ S => by rw [if_neg hl]
  · exact js_augF ok gs hop (hE _) (hE e)
  · exact js_bad
theorem s_stmt (tx : T.Ok) (cx : CtxOk T fr X Wx (k + 1)) (rec : RecOk T R (k + 1)) (st : Stmt) : PS X st (tS T.c Wx fun σ S => stepS T.G R fr st σ S) := by
  have ok := cx.ok
  obtain ⟨hE, hT, hB⟩ := rec fr X Wx cx
  unfold stepS
  split
  · exact js_ret (hE _)
  · exact js_retN
  · exact s_asg tx cx rec _ _ _
  · exact s_aug tx cx rec _ _ _ _
  · exact js_guard fun hn => js_expr (hE _) hn
  · exact js_pass
  · exact js_break
  · exact js_cont
  · exact js_if (hT _) (hB _) (hB _)
  · refine js_guard fun hg => ?_
    rw [Bool.and_eq_true] at hg
    exact js_for ok cx.po (s_iter cx hE _ _) hg.1 (hB _) hg.2
  · exact js_raise ok (by rw [cx.eP, cx.em]; exact tx.gx) cx.tk cx.room hE _ _
  · exact js_try ok (by rw [cx.eP, cx.em]; exact tx.gx) tx.ge cx.tk cx.sf fun W pn xe tk po => (rec fr _ W (cx.tr tk po)).2.2 _
  · exact js_while ok cx.po (hT _) (hB _) line
  · exact js_bad
/-- one step -/
theorem step_ok (tx : T.Ok) (rec : RecOk T R (k + 1)) (hF : FnsK T Rc k) : RecOk T (step T.G T.kps Rc R) (k + 1) := fun fr X Wx cx =>
  ⟨fun e => s_expr tx cx hF rec e, fun e => s_test tx cx hF rec e, fun sts => js_block (fun st => s_stmt tx cx rec st) sts⟩
end
end Ev
set_option linter.all false
set_option maxHeartbeats 4000000
namespace Ev
open PySem L2

/-! ## all steps are sound -/
structure Txt.Gl (T : Txt) : Prop where
  glv : ∀ x d, T.G.names.lookup x = some (.val d) → ∃ v u, T.mg x = some u ∧ RelV v u ∧ Rep T.c (fun _ => none) v d
  bi : ∀ x, T.G.names.lookup x = none → x ≠ "__name__" → T.mg x = none
theorem start_rep {c : Cs} {F : Hp} {ρ : List Addr} {N : List Str} {vs : List V} {ws : List W} (r : WReps c F ρ vs ws) : ERep c F ρ (L2.start N vs) (start N ws) := by
  have hl := Paired.len r
  unfold L2.start start
  refine ⟨by simp [hl], fun i w e => ?_⟩
  by_cases hi : i < ws.length
  · rw [List.getElem?_append_left (by simpa using hi)] at e
    rw [List.getElem?_append_left (by simpa [hl] using hi)]
    rw [List.getElem?_map] at e ⊢
    cases hw : ws[i]? with
    | none =>
      rw [hw] at e
      cases e
    | some w' =>
      rw [hw] at e
      cases e
      obtain ⟨v, hv, h⟩ := Paired.getP r hw
      exact ⟨v, by rw [hv]; rfl, h⟩
  · rw [List.getElem?_append_right (by simpa using hi)] at e
    rw [List.getElem?_replicate] at e
    split at e <;> cases e
section
variable {c : Cs} {G : Gm}
/-- behind a run over an empty store -/
theorem back_pure {F H F' H' : Hp} {ρ ρ' : List Addr} {S S' : Store} (sr : SRep c F H ρ S) (st : Step F [] H F' ρ' H') (sr' : SRep c F' H' ρ' S') : Step F ρ H F' ρ H' ∧ SRep c F' H' ρ S :=
  own_step sr (fun _ _ h => h) (fun q hq => by cases hq) st (fun _ _ h => .inl h) sr'.sub
theorem give_pure {F H F' H' : Hp} {ρ ρ' : List Addr} {S S' : Store} (sr : SRep c F H ρ S) (st : Step F [] H F' ρ' H') (sr' : SRep c F' H' ρ' S') {v : V} {rv rv2 : RV} (vr : VRep c F' H' ρ' H v rv) (hg : give G S' rv = some rv2) :
    ∃ F2, Step F ρ H F2 ρ H' ∧ SRep c F2 H' ρ S ∧ VRep c F2 H' ρ H v rv2 := by
  obtain ⟨F2, s1, s2, s3, vr2⟩ := give_ok (ρ := ρ) sr' st (fun q hq => by cases hq) (fun _ h => h) (fun a ha => sr.there ha) vr hg
  obtain ⟨o1, o2⟩ := back_pure sr st sr'
  have o3 : Step F ρ H F2 ρ H' := ⟨o1.frz.trans s1, List.prefix_refl _, fun q o h => by
    rcases s3 q o h with z | z
    · exact o1.newF q o z
    · exact .inr z, fun q h => .inl h, o1.keep, o1.dom⟩
  refine ⟨F2, o3, o2.on s1 s2 (fun a ha => ?_) fun _ _ _ h => h, vr2⟩
  cases e : F2 a with
  | none => rfl
  | some u =>
    rcases o3.newF a u e with z | z
    · rw [sr.nf a ha] at z
      cases z
    · obtain ⟨o, h⟩ := sr.there ha
      rw [z] at h
      cases h
end
theorem fns_ok {T : Txt} (tx : T.Ok) (tg : T.Gl) {R : Rec} {k : Nat} (rec : RecOk T R k) : FnsK T R (k + 1) := by
  intro i fi hi
  obtain ⟨oc, od, x, q, params, dv, kV, doc, pm, an, cdv, ct, osl, hfd, lk, hcd⟩ := tx.gs.fn i fi hi
  rw [hfd] at lk ⊢
  have hsc := tx.gs.sc i fi hi
  refine fn_of lk hcd hsc (fun vs H Q E h => ?_) fun A outer s H vs Q E hr hsp => ?_
  · have h1 := h.1
    rw [hi] at h1
    exact (Option.some.inj h1).symm
  · obtain ⟨h1, ws, S, F, ρ, sr, wr, hq⟩ := hsp
    have cx : CtxOk T ⟨fi.N, defScope fi.st, fi.cells, []⟩ (cxOf (L2.CX T.P T.w) T.P T.w T.c.K T.mg T.base fi.N q (defScope fi.st) (T.fa i) cdv A outer s H E) (fun cls d _ H' => E cls d H') k := by
      refine ⟨⟨rfl, rfl, rfl, hsc.nd, rfl, ?_, fun _ => .inl rfl, tg.glv, tg.bi⟩, takes_of rfl rfl rfl rfl, passes_of rfl, rfl, rfl, rfl, rfl, hr, fun _ => ⟨rfl, rfl⟩⟩
      have := hr.un
      show (A.deeper _).units + 64 < cLine
      omega
    refine ⟨_, (rec _ _ _ cx).2.2 (defBody fi.st), ?_⟩
    rw [hi] at h1
    unfold callF at hq
    rw [hi] at hq
    dsimp only at hq
    split at hq
    · split at hq
      · rename_i hp
        -- over a store of its own
        refine ⟨start fi.N ws, [], F, [], ⟨start_rep (pure_reps (Same.refl F) wr hp), srep_nil sr.sub⟩, ?_⟩
        show QS T.c _ F [] H _ (R.B ⟨fi.N, defScope fi.st, fi.cells, []⟩ (start fi.N ws) (defBody fi.st) [])
        unfold runB at hq
        cases ho : R.B ⟨fi.N, defScope fi.st, fi.cells, []⟩ (start fi.N ws) (defBody fi.st) [] with
        | rt rv S' =>
          rw [ho] at hq
          dsimp only at hq
          intro v F' H' ρ' st sr' vr
          cases hg : give T.G S' rv with
          | none =>
            rw [hg] at hq
            exact hq.elim
          | some rv2 =>
            rw [hg] at hq
            obtain ⟨F2, o3, o4, vr2⟩ := give_pure sr st sr' vr hg
            exact hq F2 H' ρ o3 o4 v vr2
        | nx σ' S' =>
          rw [ho] at hq
          intro τ' F' H' ρ' st a
          obtain ⟨o3, o4⟩ := back_pure sr st a.st
          exact hq F' H' ρ o3 o4 .non (.d .non)
        | exc n fs σ' S' =>
          rw [ho] at hq
          intro τ' F' H' ρ' cls d st a ea
          obtain ⟨o3, o4⟩ := back_pure sr st a.st
          exact hq F' H' ρ o3 o4 cls d ea
        | bk _ _ =>
          rw [ho] at hq
          exact hq.elim
        | ct _ _ =>
          rw [ho] at hq
          exact hq.elim
        | bad =>
          rw [ho] at hq
          exact hq.elim
      · refine ⟨start fi.N ws, S, F, ρ, ⟨start_rep wr, sr⟩, ?_⟩
        show QS T.c _ F ρ H _ (R.B ⟨fi.N, defScope fi.st, fi.cells, []⟩ (start fi.N ws) (defBody fi.st) S)
        unfold runB at hq
        cases ho : R.B ⟨fi.N, defScope fi.st, fi.cells, []⟩ (start fi.N ws) (defBody fi.st) S with
        | rt rv S' =>
          rw [ho] at hq
          exact fun v F' H' ρ' st sr' vr => hq F' H' ρ' st sr' v vr
        | nx σ' S' =>
          rw [ho] at hq
          exact fun τ' F' H' ρ' st a => hq F' H' ρ' st a.st .non (.d .non)
        | exc n fs σ' S' =>
          rw [ho] at hq
          exact fun τ' F' H' ρ' cls d st a ea => hq F' H' ρ' st a.st cls d ea
        | bk _ _ =>
          rw [ho] at hq
          exact hq.elim
        | ct _ _ =>
          rw [ho] at hq
          exact hq.elim
        | bad =>
          rw [ho] at hq
          exact hq.elim
    · exact hq.elim
theorem bot_ok (T : Txt) (k : Nat) : RecOk T bot k := fun fr X Wx cx => ⟨fun e => je_bad, fun e => pt_bad, fun sts => ⟨fun pins s τ H D I h => by
  obtain ⟨σ, S, F, ρ, a, q⟩ := h
  exact q.elim⟩⟩
theorem RecOk.mono {T : Txt} {R : Rec} {j k : Nat} (h : RecOk T R j) (l : j ≤ k) : RecOk T R k := fun fr X Wx cx => h fr X Wx (cx.mono l)
theorem evS_ok {T : Txt} (tx : T.Ok) {Rc : Rec} {k : Nat} (hF : FnsK T Rc k) : ∀ m : Nat, RecOk T (evS T.G T.kps Rc m) (k + 1)
  | 0 => bot_ok T _
  | m + 1 => step_ok tx (evS_ok tx hF m) hF
/-- the evaluator tells the truth, where there is room for twice the calls' depth -/
theorem ev_ok {T : Txt} (tx : T.Ok) (tg : T.Gl) : ∀ n : Nat, RecOk T (ev T.G T.kps n) (2 * n)
  | 0 => bot_ok T _
  | n + 1 => evS_ok tx (fns_ok tx tg (ev_ok tx tg n)) 64
theorem ev_fns {T : Txt} (tx : T.Ok) (tg : T.Gl) (n : Nat) : FnsK T (ev T.G T.kps n) (2 * n + 1) := fns_ok tx tg (ev_ok tx tg n)
end Ev
set_option linter.all false
set_option maxHeartbeats 4000000
namespace Ev
open PySem L2 He

/-! ## the head's facts: defs by their addresses, and any Bool of the written part -/
/-- where a def stands: a global, a class's method, a property's getter -/
inductive Loc where
  | g (x : Str) | m (C x : Str) | p (C x : Str)
def Loc.ad (K : PySem.W.Frag) : Loc → Addr
  | .g x => ga K x
  | .m C x => ma K (ga K C) x
  | .p C x => match PySem.W.recIn K (ma K (ga K C) x) "property" with
    | some (.ref get :: _) => get
    | _ => 0
structure DefA where
  at_ : Loc
  name : Str
  qual : Str
  params : Arguments
  body : List Stmt
  scope : Scope
  dfl : List Dv := []
  kwd : List (Str × Dv) := []
def fnA (K : PySem.W.Frag) (l : Loc) : FnW := match K.lookup (l.ad K) with
  | some ⟨_, _, .func fd, _⟩ => some (fd.name, fd.qualname, fd.params, fd.body, fd.scope, fd.globals, fd.closure, fd.builtins)
  | _ => none
def DefA.val (d : DefA) : FnW := some (d.name, d.qual, d.params, .stmts d.body, d.scope, mainGlobals, [], builtinsNs)
def DefA.dvs (K : PySem.W.Frag) (d : DefA) : List V := d.dfl.map (Dv.v K)
def DefA.kws (K : PySem.W.Frag) (d : DefA) : List (Str × V) := d.kwd.map fun q => (q.1, q.2.v K)
def DefA.ok (K : PySem.W.Frag) (d : DefA) : Bool := PySem.W.keepIn K (.ref (d.at_.ad K)) && match K.lookup (d.at_.ad K) with
  | some ⟨_, _, .func fd, _⟩ => PySem.W.codeIn K fd.code d.qual && dflB K fd.defaults (d.dvs K) && kwdB K fd.kwdefaults (d.kws K)
  | _ => false
theorem DefA.funD {K : PySem.W.Frag} {d : DefA} (e : fnA K d.at_ = d.val) (c : d.ok K = true) : ∃ fd, FunD K d.name d.qual d.params d.body d.scope (d.dvs K) (d.kws K) (d.at_.ad K) fd := by
  unfold DefA.ok at c
  rw [Bool.and_eq_true] at c
  obtain ⟨kp, c2⟩ := c
  unfold fnA at e
  split at c2
  · rename_i oc od fd osl q
    rw [q] at e
    obtain ⟨n1, n2, n3, n4, n5, n6, n7, n8, n9, n10, n11, n12, n13, n14, n15⟩ := fd
    have e2 : (some (n1, n2, n3, n4, n5, n6, n7, n15) : FnW) = some (d.name, d.qual, d.params, .stmts d.body, d.scope, mainGlobals, [], builtinsNs) := e
    simp only [Option.some.injEq, Prod.mk.injEq] at e2
    obtain ⟨h1, h2, h3, h4, h5, h6, h7, h8⟩ := e2
    subst h1 h2 h3 h4 h5 h6 h7 h8
    rw [Bool.and_eq_true, Bool.and_eq_true] at c2
    exact ⟨_, ⟨oc, od, n8, n9, n10, n11, n12, n13, n14, osl, rfl, q, c2.1.1, dflB_ok c2.1.2, kwdB_ok c2.2⟩, kp⟩
  · cases c2
/-- an own error's __init__: it has the cell of its class -/
structure ErA where
  x : Str
  qual : Str
  params : Arguments
  body : List Stmt
  scope : Scope
def ErA.ad (K : PySem.W.Frag) (e : ErA) : Addr := ma K (ga K e.x) "__init__"
def fnE (K : PySem.W.Frag) (e : ErA) : FnW := match K.lookup (e.ad K) with
  | some ⟨_, _, .func fd, _⟩ => match fd.closure with
    | [(n, _)] => if n = ("__class__" : Str) then some (fd.name, fd.qualname, fd.params, fd.body, fd.scope, fd.globals, [], fd.builtins) else none
    | _ => none
  | _ => none
def ErA.val (e : ErA) : FnW := some ("__init__", e.qual, e.params, .stmts e.body, e.scope, mainGlobals, [], builtinsNs)
def noneV : Value → Bool
  | .none => true
  | _ => false
def ErA.ok (K : PySem.W.Frag) (file : Str) (e : ErA) : Bool := match K.lookup (e.ad K) with
  | some ⟨_, _, .func fd, _⟩ => noneV fd.defaults && noneV fd.kwdefaults && PySem.W.codeIn K fd.code e.qual && (match fd.code with
    | .ref cda => match K.lookup cda with
      | some ⟨_, _, .fields vs, _⟩ => match (vs[2]? : Option Value) with
        | some (.str f _) => decide (f = file)
        | _ => false
      | _ => false
    | _ => false) && (match fd.closure with
    | [(_, cc)] => match K.lookup cc with
      | some ⟨_, _, .cell (some (.ref D)), _⟩ => decide (D = ga K e.x)
      | _ => false
    | _ => false)
  | _ => false
theorem ErA.fn {K : PySem.W.Frag} {file : Str} {e : ErA} (h : fnE K e = e.val) (c : e.ok K file = true) : ∃ cda cc, (∃ oc od doc pm an ct osl, K.lookup (e.ad K) = some ⟨oc, od, .func (PySem.W.fnX "__init__" e.qual e.params e.body e.scope [("__class__", cc)] .none .none doc pm an (.ref cda) ct), osl⟩) ∧ PySem.W.codeIn K (.ref cda) e.qual = true ∧
    (∃ ccl cdd vs ccs f tf, K.lookup cda = some ⟨ccl, cdd, .fields vs, ccs⟩ ∧ vs[2]? = some (.str f tf) ∧ f = file) ∧ ∃ cl cld csl, K.lookup cc = some ⟨cl, cld, .cell (some (.ref (ga K e.x))), csl⟩ := by
  unfold ErA.ok at c
  unfold fnE at h
  split at c
  · rename_i oc od fd osl q
    rw [q] at h
    dsimp only at h
    simp only [Bool.and_eq_true] at c
    obtain ⟨⟨⟨⟨c1, c2⟩, c3⟩, c4⟩, c5⟩ := c
    split at h
    · rename_i n cc hcl
      split at h
      · rename_i hn
        subst hn
        rw [hcl] at c5
        dsimp only at c5
        split at c5
        · rename_i cl cld D csl hcc
          have hD := of_decide_eq_true c5
          subst hD
          split at c4
          · rename_i cda hcd
            split at c4
            · rename_i ccl cdd vs ccs hk
              split at c4
              · rename_i f tf hv
                have hf := of_decide_eq_true c4
                rw [hcd] at c3
                obtain ⟨n1, n2, n3, n4, n5, n6, n7, n8, n9, n10, n11, n12, n13, n14, n15⟩ := fd
                have e2 : (some (n1, n2, n3, n4, n5, n6, ([] : List (Str × Addr)), n15) : FnW) = (some (("__init__" : Str), e.qual, e.params, .stmts e.body, e.scope, mainGlobals, [], builtinsNs) : FnW) := h
                simp only [Option.some.injEq, Prod.mk.injEq] at e2
                obtain ⟨h1, h2, h3, h4, h5, h6, _, h8⟩ := e2
                dsimp only at hcl hcd c1 c2
                subst hcl hcd h1 h2 h3 h4 h5 h6 h8
                have d1 : n8 = Value.none := by cases n8 <;> first | rfl | cases c1
                have d2 : n9 = Value.none := by cases n9 <;> first | rfl | cases c2
                subst d1 d2
                exact ⟨cda, cc, ⟨oc, od, _, _, _, _, osl, q⟩, c3, ⟨ccl, cdd, vs, ccs, f, tf, hk, hv, hf⟩, cl, cld, csl, hcc⟩
              · cases c4
            · cases c4
          · cases c4
        · cases c5
      · cases h
    · cases h
  · cases c
def obsA (B : PySem.W.Frag → Bool) (fn : List DefA) (er : List ErA) (K : PySem.W.Frag) : AlD := (B K && fn.all fun d => d.ok K, (fn.map fun d => fnA K d.at_) ++ er.map fun e => fnE K e)
def valA (fn : List DefA) (er : List ErA) : AlD := (true, fn.map DefA.val ++ er.map ErA.val)
def SaysA (B : PySem.W.Frag → Bool) (fn : List DefA) (er : List ErA) (K : PySem.W.Frag) : Prop := obsA B fn er K = valA fn er
def obsAG (n : Nat) (B : PySem.W.Frag → Bool) (fn : List DefA) (er : List ErA) (g : Addr → Option Obj) : AlD := obsA B fn er (frG g (asD g n ++ [cStatics]))
def hookA (n : Nat) (B : PySem.W.Frag → Bool) (fn : List DefA) (er : List ErA) : PySem.W.Hook where
  α := AlD
  obs := fun s => obsAG n B fn er s.heap.get?
  val := fun _ => valA fn er
  says := fun _ h => ∃ K : PySem.W.Frag, K.In h ∧ SaysA B fn er K
  of := fun _ _ e => ⟨_, frG_in, e⟩
  keeps := fun _ _ _ ⟨K, hK, c⟩ k => ⟨K, PySem.W.Frag.In.keeps hK k, c⟩
theorem obsAG_eq {n : Nat} {B : PySem.W.Frag → Bool} {fn : List DefA} {er : List ErA} {g : Addr → Option Obj} {s : Shared} (h : ∀ a, g a = s.heap.get? a) : obsAG n B fn er g = (hookA n B fn er).obs s := by
  have e : g = s.heap.get? := funext h
  rw [e]
  rfl
section
variable {B : PySem.W.Frag → Bool} {fn : List DefA} {er : List ErA} {K : PySem.W.Frag}
theorem SaysA.fact (c : SaysA B fn er K) : B K = true := (Bool.and_eq_true_iff.mp (show (B K && fn.all fun d => d.ok K) = true from congrArg (fun z : AlD => z.1) c)).1
theorem SaysA.def_ (c : SaysA B fn er K) (i : Nat) {d : DefA} (h : fn[i]? = some d) : ∃ fd, FunD K d.name d.qual d.params d.body d.scope (d.dvs K) (d.kws K) (d.at_.ad K) fd := by
  have c1 := (Bool.and_eq_true_iff.mp (show (B K && fn.all fun d => d.ok K) = true from congrArg (fun z : AlD => z.1) c)).2
  have c2 : (fn.map fun d => fnA K d.at_) ++ (er.map fun e => fnE K e) = fn.map DefA.val ++ er.map ErA.val := congrArg (fun z : AlD => z.2) c
  have c3 := (List.append_inj c2 (by simp)).1
  have e : (fn.map fun d => fnA K d.at_)[i]? = (fn.map DefA.val)[i]? := by rw [c3]
  rw [List.getElem?_map, List.getElem?_map, h] at e
  exact DefA.funD (Option.some.inj e) (List.all_eq_true.mp c1 d (List.mem_of_getElem? h))
theorem SaysA.err_ (c : SaysA B fn er K) {d : ErA} (h : d ∈ er) : fnE K d = d.val := by
  have c2 : (fn.map fun d => fnA K d.at_) ++ (er.map fun e => fnE K e) = fn.map DefA.val ++ er.map ErA.val := congrArg (fun z : AlD => z.2) c
  have c3 := (List.append_inj c2 (by simp)).2
  obtain ⟨i, hi⟩ := List.getElem?_of_mem h
  have e : (er.map fun e => fnE K e)[i]? = (er.map ErA.val)[i]? := by rw [c3]
  rw [List.getElem?_map, List.getElem?_map, hi] at e
  exact Option.some.inj e
end
end Ev
set_option linter.all false
set_option maxHeartbeats 4000000
namespace Ev
open PySem L2 He

/-! ## a text as data; what it says, from one Bool of the written part -/
structure DE where
  at_ : Loc
  name : Str
  qual : Str
  st : Stmt
  N : List Str
  ps : List Str
  cells : List Str := []
  dfl : List Dv := []
  kwd : List (Str × Dv) := []
  kwo : Bool := false
def DE.defA (d : DE) : DefA := ⟨d.at_, d.name, d.qual, defArgs d.st, defBody d.st, defScope d.st, d.dfl, d.kwd⟩
def DE.fnI (d : DE) : FnI := ⟨d.st, d.N, d.ps, [], d.cells, d.kwo⟩
/-- an own error -/
structure EX where
  x : Str
  flds : List Str
  anc : List Nat
  has : Bool
  qual : Str
  st : Stmt
def EX.erA (e : EX) : ErA := ⟨e.x, e.qual, defArgs e.st, defBody e.st, defScope e.st⟩
structure Tx where
  names : List (Str × GV)
  es : List DE
  clss : List (Str × ClsI)
  kps : List KP
  ers : List EX
  file : Str
def Tx.G (t : Tx) : Gm := ⟨t.names, t.es.map DE.fnI, t.clss.map (·.2), t.ers.map fun e => ⟨e.flds, e.anc⟩⟩
def Tx.erA (t : Tx) : List ErA := (t.ers.filter (·.has)).map EX.erA
def Tx.fa (t : Tx) (K : PySem.W.Frag) (i : Nat) : Addr := match t.es[i]? with
  | some d => d.at_.ad K
  | none => 0
def Tx.cl (t : Tx) (K : PySem.W.Frag) (k : Nat) : Addr := match t.clss[k]? with
  | some c => ga K c.1
  | none => 0
def noFn : FuncData := PySem.W.fnOf "" "" (defArgs (.Pass ⟨0, 0, 0, 0⟩)) [] (defScope (.Pass ⟨0, 0, 0, 0⟩)) .none .none .none .none none .none .none
def Tx.fd (t : Tx) (K : PySem.W.Frag) (i : Nat) : FuncData := match K.lookup (t.fa K i) with
  | some ⟨_, _, .func fd, _⟩ => fd
  | _ => noFn
def Tx.cs (t : Tx) (K : PySem.W.Frag) : Cs := ⟨K, t.cl K, fun n => match t.ers[n]? with | some e => ga K e.x | none => 0, fun n => match t.ers[n]? with | some e => e.flds | none => []⟩

/-! ### the Bool -/
/-- a constant of the module, flat -/
def dvOf : D → Option Dv
  | .non => some .non | .bl b => some (.bl b) | .int i => some (.int i) | .str s => some (.str s) | _ => none
def dvsOf : List D → Option (List Dv)
  | [] => some []
  | d :: ds => match dvOf d, dvsOf ds with
    | some v, some vs => some (v :: vs)
    | _, _ => none
def isLocG (l : Loc) (x : Str) : Bool := match l with
  | .g y => decide (y = x)
  | _ => false
def isLocM (l : Loc) (C x : Str) : Bool := match l with
  | .m D y => decide (D = C) && decide (y = x)
  | _ => false
def isLocP (l : Loc) (C x : Str) : Bool := match l with
  | .p D y => decide (D = C) && decide (y = x)
  | _ => false
def gloB (K : PySem.W.Frag) (x : Str) : Bool := eqO (PySem.W.nsIn K mainGlobals x) (some (some (.ref (ga K x))))
def valB (K : PySem.W.Frag) (x : Str) : D → Bool
  | .ktup xs => gloB K x && match dvsOf xs with
    | some vs => tupB K x vs
    | none => false
  | d => match dvOf d, PySem.W.nsIn K mainGlobals x with
    | some v, some (some u) => relB (v.v K) u
    | _, _ => false
def Tx.nameB (t : Tx) (K : PySem.W.Frag) (y : Str × GV) : Bool := match y.2 with
  | .fn i => gloB K y.1 && match t.es[i]? with
    | some d => isLocG d.at_ y.1
    | none => false
  | .cls k => gloB K y.1 && match t.clss[k]? with
    | some c => decide (c.1 = y.1)
    | none => false
  | .val d => valB K y.1 d
  | .exc j => match t.ers[j]? with
    | some e => gloB K y.1 && decide (e.x = y.1)
    | none => true
def propB (K : PySem.W.Frag) (C : Str) (f : Str) (g : Addr) : Bool := eqO (PySem.W.findIn K (.ref (ga K C)) f) (some (some (.ref (ma K (ga K C) f)))) && eqO (PySem.W.specialIn K (.ref (ma K (ga K C) f)) "__get__") (some (some (.builtin "property.__get__"))) &&
  decide (PySem.W.takesIn K (.ref (ma K (ga K C) f)) = some true) && match PySem.W.recIn K (ma K (ga K C) f) "property" with
    | some (.ref h :: _) => decide (h = g)
    | _ => false
def Tx.clsB (t : Tx) (K : PySem.W.Frag) (c : Str × ClsI) : Bool := (Fa.cls c.1).ok K && (Fa.mkr c.1).ok K && (match t.es[c.2.init]? with
    | some d => isLocM d.at_ c.1 "__init__"
    | none => false) && (c.2.flds.all fun f => (Fa.noat c.1 f).ok K) && (c.2.meths.all fun m => (Fa.meth c.1 m.1).ok K && (match t.es[m.2]? with
    | some d => isLocM d.at_ c.1 m.1
    | none => false) && !c.2.flds.contains m.1) && (c.2.props.all fun m => match t.es[m.2]? with
    | some d => isLocP d.at_ c.1 m.1 && propB K c.1 m.1 (d.at_.ad K)
    | none => false)
def Tx.giB (t : Tx) (K : PySem.W.Frag) : Bool := eqO (PySem.W.specialIn K (.builtin "object.__class__") "__get__") (some (some (.builtin "getset_descriptor.__get__"))) && decide (PySem.W.takesIn K (.builtin "object.__class__") = some true) &&
  t.clss.all fun c => eqO (PySem.W.findIn K (.ref (ga K c.1)) "__class__") (some (some (.builtin "object.__class__"))) && decide (PySem.W.mroIn K (ga K c.1) (.type "object") = some true) && PySem.W.selfFirst K (ga K c.1) &&
    (tyAsked.all fun b => decide (PySem.W.kitOne K (.ref (ga K c.1)) (.type b) = some false)) && (tyNames.all fun a => decide (PySem.W.kitOne K (.type a) (.ref (ga K c.1)) = some false) && PySem.W.notFirst K (ga K c.1) (.type a)) &&
    t.clss.all fun c' => PySem.W.notFirst K (ga K c.1) (.ref (ga K c'.1)) && decide (PySem.W.kitOne K (.ref (ga K c.1)) (.ref (ga K c'.1)) = some (decide (c.1 = c'.1)))
/-- the module binds nothing else -/
def Tx.allB (t : Tx) (K : PySem.W.Frag) : Bool := match K.lookup mainGlobals with
  | some ⟨_, _, .dict es _, _⟩ => !es.toList.any (·.refKey) && es.toList.all fun e => t.names.any (fun y => e.key.isStr y.1) || e.key.isStr "__name__"
  | _ => false
/-- an own error's class -/
def oexB (K : PySem.W.Frag) (C : Addr) : Bool := match K.lookup C with
  | some ⟨.type "type", _, .cls cd, sl⟩ => (match cd.mro, sl.toList with
    | .ref C' :: bm, [_, _, _, _, some (.builtin n), _] => C' == C && n == "ValueError.__new__" && cd.hasDict && !cd.hasDel && PySem.HandSPX.refsVE bm
    | _, _ => false)
  | _ => false
def EX.anyB (K : PySem.W.Frag) (e : EX) : Bool := PySem.W.keepIn K (.ref (ga K e.x)) && (PySem.W.clsIn K (ga K e.x)).isSome && PySem.W.hasDictIn K (ga K e.x) && eqO (PySem.W.findIn K (.ref (ga K e.x)) "__getattribute__") (some (some (.builtin "BaseException.__getattribute__"))) &&
  eqO (PySem.W.findIn K (.ref (ga K e.x)) "__getattr__") (some none) && decide (PySem.W.subIn K (.ref (ga K e.x)) (.type "BaseException") = some true) && eqO (PySem.W.findIn K (.ref (ga K e.x)) "__class__") (some (some (.builtin "object.__class__"))) &&
  decide (PySem.W.mroIn K (ga K e.x) (.type "object") = some true) && (e.flds.all fun f => eqO (PySem.W.findIn K (.ref (ga K e.x)) f) (some none))
def EX.mkB (K : PySem.W.Frag) (file : Str) (e : EX) : Bool := oexB K (ga K e.x) && eqO (PySem.W.findIn K (.ref (ga K e.x)) "__setattr__") (some (some (.builtin "object.__setattr__"))) && decide (PySem.W.typeIn K (.ref (ga K e.x)) = some (.type "type")) &&
  eqO (PySem.W.findIn K (.ref (ga K e.x)) "__init__") (some (some (.ref (ma K (ga K e.x) "__init__")))) && decide (PySem.W.typeIn K (.ref (ma K (ga K e.x) "__init__")) = some (.type "function")) && e.erA.ok K file &&
  decide (PySem.W.mroIn K (ga K e.x) (.ref (ga K e.x)) = some true) && eqO (PySem.W.ks_superIn K (ga K e.x) (ga K e.x) "__init__") (some (some (.builtin "ValueError.__init__"))) && decide (PySem.W.subIn K (.ref (ga K e.x)) (.type "ValueError") = some true)
def jdx {α : Type} : List α → Nat → List (Nat × α)
  | [], _ => []
  | x :: xs, n => (n, x) :: jdx xs (n + 1)
def Tx.geB (t : Tx) (K : PySem.W.Frag) : Bool := eqO (PySem.W.nsIn K cStatics "thirdparty.any") (some none) && (t.ers.all fun e => e.anyB K && (!e.has || e.mkB K t.file) && (jdx t.ers 0).all fun q =>
  decide (PySem.W.exmOne K (.ref (ga K e.x)) (.ref (ga K q.2.x)) = some (e.anc.contains q.1)) && (!e.anc.contains q.1 || decide (PySem.W.kitOne K (.ref (ga K e.x)) (.ref (ga K q.2.x)) = some true)))
def Tx.B (t : Tx) (K : PySem.W.Frag) : Bool := t.geB K && (t.names.all fun y => t.nameB K y) && (t.clss.all fun c => t.clsB K c) && t.giB K && t.allB K
def scB (N ps : List Str) (sc : Scope) : Bool := (match sc.kind with | .function => true | _ => false) && !sc.isCoroutine && !sc.isGenerator && decide N.Nodup && decide (N.take ps.length = ps) &&
  (ps.all fun x => match sc.names.lookup x with | some .local => true | some .cell => true | _ => false) && sc.names.all fun y => match y.2 with | .free => false | _ => true
theorem scB_ok {N ps : List Str} {sc : Scope} (h : scB N ps sc = true) : FnScope N ps sc := by
  unfold scB at h
  simp only [Bool.and_eq_true, Bool.not_eq_true', decide_eq_true_eq, List.all_eq_true] at h
  obtain ⟨⟨⟨⟨⟨⟨h1, h2⟩, h3⟩, h4⟩, h5⟩, h6⟩, h7⟩ := h
  refine ⟨?_, h2, h3, h4, h5, fun x hx => ?_, fun y hy e => ?_⟩
  · split at h1
    · assumption
    · cases h1
  · have q := h6 x hx
    split at q
    · exact .inl (by assumption)
    · exact .inr (by assumption)
    · cases q
  · have q := h7 y hy
    rw [e] at q
    cases q
/-- what the text's own terms say, with no written part -/
structure Tx.Ok (t : Tx) : Prop where
  sc : ∀ d ∈ t.es, scB d.N d.ps (defScope d.st) = true
  bnd : ∀ d ∈ t.es, d.kwo = false → d.dfl = [] ∧ ∀ (kV doc pm : Value) (an : Option Addr) (cdv ct : Value) (us : List Value), us.length = d.ps.length → PySem.bindArgs (PySem.W.fnOf d.name d.qual (defArgs d.st) (defBody d.st) (defScope d.st) .none kV doc pm an cdv ct) ⟨us, []⟩ = pure (d.ps.zip us)
  dif : (t.clss.map (·.1)).Nodup
theorem look_mem {α : Type} {x : Str} {a : α} : ∀ {l : List (Str × α)}, l.lookup x = some a → (x, a) ∈ l
  | [], h => by cases h
  | (y, b) :: l, h => by
    rw [List.lookup_cons] at h
    by_cases e : x == y
    · rw [e] at h
      have h : b = a := Option.some.inj h
      rw [← h, eq_of_beq e]
      exact List.mem_cons_self ..
    · have e : (x == y) = false := by simpa using e
      rw [e] at h
      exact List.mem_cons_of_mem _ (look_mem h)
section
variable {t : Tx} {K : PySem.W.Frag} {h : Heap} {mg : Str → Option Value}
theorem Tx.fn_at {i : Nat} {fi : FnI} (e : t.G.fns[i]? = some fi) : ∃ d, t.es[i]? = some d ∧ fi = d.fnI ∧ t.fa K i = d.at_.ad K := by
  have e : (t.es.map DE.fnI)[i]? = some fi := e
  rw [List.getElem?_map] at e
  cases q : t.es[i]? with
  | none =>
    rw [q] at e
    cases e
  | some d =>
    rw [q] at e
    cases e
    exact ⟨d, rfl, rfl, by unfold Tx.fa; rw [q]⟩
theorem Tx.cl_at {k : Nat} {ci : ClsI} (e : t.G.clss[k]? = some ci) : ∃ x, t.clss[k]? = some (x, ci) ∧ t.cl K k = ga K x := by
  have e : (t.clss.map (·.2))[k]? = some ci := e
  rw [List.getElem?_map] at e
  cases q : t.clss[k]? with
  | none =>
    rw [q] at e
    cases e
  | some c =>
    rw [q] at e
    cases e
    exact ⟨c.1, rfl, by unfold Tx.cl; rw [q]⟩
theorem Tx.fun_ (c : SaysA t.B (t.es.map DE.defA) t.erA K) {i : Nat} {d : DE} (e : t.es[i]? = some d) : FunD K d.name d.qual (defArgs d.st) (defBody d.st) (defScope d.st) (d.dfl.map (Dv.v K)) (d.kwd.map fun q => (q.1, q.2.v K)) (d.at_.ad K) (t.fd K i) := by
  obtain ⟨fd, F⟩ := c.def_ i (d := d.defA) (by rw [List.getElem?_map, e]; rfl)
  have F : FunD K d.name d.qual (defArgs d.st) (defBody d.st) (defScope d.st) (d.dfl.map (Dv.v K)) (d.kwd.map fun q => (q.1, q.2.v K)) (d.at_.ad K) fd := F
  obtain ⟨oc, od, dV, kV, doc, pm, an, cdv, ct, osl, e1, lk, _⟩ := F.ex
  have : t.fd K i = fd := by
    unfold Tx.fd Tx.fa
    rw [e]
    dsimp only
    rw [lk]
  rw [this]
  exact F
theorem Tx.nameOk (c : SaysA t.B (t.es.map DE.defA) t.erA K) {x : Str} {gv : GV} (e : t.names.lookup x = some gv) : t.nameB K (x, gv) = true := by
  have b := c.fact
  unfold Tx.B at b
  simp only [Bool.and_eq_true] at b
  exact List.all_eq_true.mp b.1.1.1.2 _ (look_mem e)
theorem Tx.clsOk (c : SaysA t.B (t.es.map DE.defA) t.erA K) {k : Nat} {x : Str} {ci : ClsI} (e : t.clss[k]? = some (x, ci)) : t.clsB K (x, ci) = true := by
  have b := c.fact
  unfold Tx.B at b
  simp only [Bool.and_eq_true] at b
  exact List.all_eq_true.mp b.1.1.2 _ (List.mem_of_getElem? e)
theorem Tx.gs (ok : t.Ok) (c : SaysA t.B (t.es.map DE.defA) t.erA K) (X : K.In h) (Gn : h.Ns mainGlobals mg) : GS (t.cs K) t.G mg (t.fa K) (t.fd K) (fun _ => []) where
  fn := fun i fi e => by
    obtain ⟨d, e1, rfl, e2⟩ := Tx.fn_at (K := K) e
    have F := Tx.fun_ c e1
    obtain ⟨oc, od, dV, kV, doc, pm, an, cdv, ct, osl, f1, lk, hcd, _⟩ := F.ex
    exact ⟨oc, od, d.name, d.qual, defArgs d.st, dV, kV, doc, pm, an, cdv, ct, osl, f1, by rw [e2]; exact lk, hcd⟩
  kp := fun i fi e => by
    obtain ⟨d, e1, rfl, e2⟩ := Tx.fn_at (K := K) e
    rw [e2]
    exact (Tx.fun_ c e1).kp
  sc := fun i fi e => by
    obtain ⟨d, e1, rfl, e2⟩ := Tx.fn_at (K := K) e
    exact scB_ok (ok.sc d (List.mem_of_getElem? e1))
  bnd := fun i fi k e hk _ => by
    obtain ⟨d, e1, rfl, e2⟩ := Tx.fn_at (K := K) e
    obtain ⟨h1, h2⟩ := ok.bnd d (List.mem_of_getElem? e1) hk
    have F := Tx.fun_ c e1
    rw [h1] at F
    rw [List.drop_nil]
    exact FunD.bindsN (ps := d.ps) F h2
  dfl := fun i fi e => by
    obtain ⟨d, e1, rfl, e2⟩ := Tx.fn_at (K := K) e
    exact ⟨[], .nil, .nil⟩
  mgf := fun x i e => by
    have b := Tx.nameOk c e
    unfold Tx.nameB at b
    dsimp only at b
    rw [Bool.and_eq_true] at b
    have m := PySem.W.mg_of X Gn (eqO_ok b.1)
    obtain ⟨_, b2⟩ := b
    split at b2
    · rename_i d hd
      unfold isLocG at b2
      split at b2
      · rename_i y hy
        have := of_decide_eq_true b2
        rw [m]
        unfold Tx.fa
        rw [hd]
        dsimp only
        rw [hy, this]
        rfl
      · cases b2
    · cases b2
  mgc := fun x k e => by
    have b := Tx.nameOk c e
    unfold Tx.nameB at b
    dsimp only at b
    rw [Bool.and_eq_true] at b
    have m := PySem.W.mg_of X Gn (eqO_ok b.1)
    obtain ⟨_, b2⟩ := b
    split at b2
    · rename_i d hd
      have := of_decide_eq_true b2
      rw [m]
      show some (Value.ref (ga K x)) = some (.ref (t.cl K k))
      unfold Tx.cl
      rw [hd]
      dsimp only
      rw [this]
    · cases b2
  cls := fun k ci e => by
    obtain ⟨x, e1, e2⟩ := Tx.cl_at (K := K) e
    have b := Tx.clsOk c e1
    unfold Tx.clsB at b
    simp only [Bool.and_eq_true] at b
    show Cls K (t.cl K k)
    rw [e2]
    exact cls_ok b.1.1.1.1.1
  fld := fun k ci f e hf => by
    obtain ⟨x, e1, e2⟩ := Tx.cl_at (K := K) e
    have b := Tx.clsOk c e1
    unfold Tx.clsB at b
    simp only [Bool.and_eq_true] at b
    show NoAttr K (t.cl K k) f
    rw [e2]
    exact noat_ok (List.all_eq_true.mp b.1.1.2 f hf)
  mth := fun k ci m i e hm => by
    obtain ⟨x, e1, e2⟩ := Tx.cl_at (K := K) e
    have b := Tx.clsOk c e1
    unfold Tx.clsB at b
    simp only [Bool.and_eq_true] at b
    have q := List.all_eq_true.mp b.1.2 _ (look_mem hm)
    simp only [Bool.and_eq_true] at q
    obtain ⟨⟨q1, q2⟩, q3⟩ := q
    show Meth K (t.cl K k) m (t.fa K i)
    rw [e2]
    have q1 := meth_ok q1
    split at q2
    · rename_i d hd
      unfold isLocM at q2
      split at q2
      · rename_i C y hy
        rw [Bool.and_eq_true, decide_eq_true_eq, decide_eq_true_eq] at q2
        have : t.fa K i = ma K (ga K x) m := by
          unfold Tx.fa
          rw [hd]
          dsimp only
          rw [hy, q2.1, q2.2]
          rfl
        rw [this]
        exact q1
      · cases q2
    · cases q2
  mnf := fun k ci m i e hm => by
    obtain ⟨x, e1, e2⟩ := Tx.cl_at (K := K) e
    have b := Tx.clsOk c e1
    unfold Tx.clsB at b
    simp only [Bool.and_eq_true] at b
    have q := List.all_eq_true.mp b.1.2 _ (look_mem hm)
    simp only [Bool.and_eq_true, Bool.not_eq_true'] at q
    intro hf
    have : ci.flds.contains m = true := by rw [List.contains_iff_mem]; exact hf
    rw [this] at q
    cases q.2
  prp := fun k ci m i e hm => by
    obtain ⟨x, e1, e2⟩ := Tx.cl_at (K := K) e
    have b := Tx.clsOk c e1
    unfold Tx.clsB at b
    simp only [Bool.and_eq_true] at b
    have q := List.all_eq_true.mp b.2 _ (look_mem hm)
    dsimp only at q
    split at q
    · rename_i d hd
      rw [Bool.and_eq_true] at q
      have q2 := q.2
      unfold propB at q2
      simp only [Bool.and_eq_true, decide_eq_true_eq] at q2
      obtain ⟨⟨⟨p1, p2⟩, p3⟩, p4⟩ := q2
      refine ⟨ma K (ga K x) m, ?_⟩
      have e3 : t.fa K i = d.at_.ad K := by
        unfold Tx.fa
        rw [hd]
      show PropOf K (t.cl K k) m _ (t.fa K i)
      rw [e2, e3]
      refine ⟨eqO_ok p1, eqO_ok p2, p3, ?_⟩
      split at p4
      · rename_i g rest hr
        have := of_decide_eq_true p4
        exact ⟨rest, by rw [hr, this]⟩
      · cases p4
    · cases q
  mkc := fun k ci e => by
    obtain ⟨x, e1, e2⟩ := Tx.cl_at (K := K) e
    have b := Tx.clsOk c e1
    unfold Tx.clsB at b
    simp only [Bool.and_eq_true] at b
    have q1 := mkr_ok b.1.1.1.1.2
    have q2 := b.1.1.1.2
    show Mk K (t.cl K k) (t.fa K ci.init)
    rw [e2]
    split at q2
    · rename_i d hd
      unfold isLocM at q2
      split at q2
      · rename_i C y hy
        rw [Bool.and_eq_true, decide_eq_true_eq, decide_eq_true_eq] at q2
        have : t.fa K ci.init = ma K (ga K x) "__init__" := by
          unfold Tx.fa
          rw [hd]
          dsimp only
          rw [hy, q2.1, q2.2]
          rfl
        rw [this]
        exact q1
      · cases q2
    · cases q2
end
end Ev
set_option linter.all false
set_option maxHeartbeats 4000000
namespace Ev
open PySem L2 He
section
variable {t : Tx} {K : PySem.W.Frag} {h : Heap} {mg : Str → Option Value}
theorem Tx.gi (ok : t.Ok) (c : SaysA t.B (t.es.map DE.defA) t.erA K) : GI (t.cs K) t.G := by
  have b := c.fact
  unfold Tx.B at b
  simp only [Bool.and_eq_true] at b
  have g := b.1.2
  unfold Tx.giB at g
  simp only [Bool.and_eq_true, decide_eq_true_eq] at g
  obtain ⟨⟨g1, g2⟩, g3⟩ := g
  have at_ : ∀ {k : Nat} {ci : ClsI}, t.G.clss[k]? = some ci → ∃ x, t.clss[k]? = some (x, ci) ∧ t.cl K k = ga K x ∧ eqO (PySem.W.findIn K (.ref (ga K x)) "__class__") (some (some (.builtin "object.__class__"))) = true ∧ PySem.W.mroIn K (ga K x) (.type "object") = some true ∧ PySem.W.selfFirst K (ga K x) = true ∧
      (∀ b ∈ tyAsked, PySem.W.kitOne K (.ref (ga K x)) (.type b) = some false) ∧ (∀ a ∈ tyNames, PySem.W.kitOne K (.type a) (.ref (ga K x)) = some false ∧ PySem.W.notFirst K (ga K x) (.type a) = true) ∧
      ∀ c' ∈ t.clss, PySem.W.notFirst K (ga K x) (.ref (ga K c'.1)) = true ∧ PySem.W.kitOne K (.ref (ga K x)) (.ref (ga K c'.1)) = some (decide (x = c'.1)) := by
    intro k ci e
    obtain ⟨x, e1, e2⟩ := Tx.cl_at (K := K) e
    have q := List.all_eq_true.mp g3 _ (List.mem_of_getElem? e1)
    simp only [Bool.and_eq_true, decide_eq_true_eq, List.all_eq_true] at q
    obtain ⟨⟨⟨⟨⟨q1, q2⟩, q3⟩, q4⟩, q5⟩, q6⟩ := q
    exact ⟨x, e1, e2, q1, q2, q3, q4, q5, q6⟩
  refine ⟨fun k ci e => ?_, eqO_ok g1, g2, fun k ci b e hb => ?_, fun k ci a e ha => ?_, fun k ci a e ha => ?_, fun k k' ci ci' e e' => ?_, fun k ci e => ?_, fun k k' ci ci' e e' => ?_⟩
  · obtain ⟨x, e1, e2, q1, q2, q3, q4, q5, q6⟩ := at_ e
    show Cls K (t.cl K k) ∧ PySem.W.findIn K (.ref (t.cl K k)) "__class__" = _ ∧ PySem.W.mroIn K (t.cl K k) _ = _
    have bb := Tx.clsOk c e1
    unfold Tx.clsB at bb
    simp only [Bool.and_eq_true] at bb
    rw [e2]
    exact ⟨cls_ok bb.1.1.1.1.1, eqO_ok q1, q2⟩
  · obtain ⟨x, e1, e2, q1, q2, q3, q4, q5, q6⟩ := at_ e
    show PySem.W.kitOne K (.ref (t.cl K k)) _ = _
    rw [e2]
    exact q4 b hb
  · obtain ⟨x, e1, e2, q1, q2, q3, q4, q5, q6⟩ := at_ e
    show PySem.W.kitOne K _ (.ref (t.cl K k)) = _
    rw [e2]
    exact (q5 a ha).1
  · obtain ⟨x, e1, e2, q1, q2, q3, q4, q5, q6⟩ := at_ e
    show PySem.W.notFirst K (t.cl K k) _ = _
    rw [e2]
    exact (q5 a ha).2
  · obtain ⟨x, e1, e2, q1, q2, q3, q4, q5, q6⟩ := at_ e
    obtain ⟨x', e1', e2', _⟩ := at_ e'
    show PySem.W.notFirst K (t.cl K k) (.ref (t.cl K k')) = _
    rw [e2, e2']
    exact (q6 _ (List.mem_of_getElem? e1')).1
  · obtain ⟨x, e1, e2, q1, q2, q3, q4, q5, q6⟩ := at_ e
    show PySem.W.selfFirst K (t.cl K k) = _
    rw [e2]
    exact q3
  · obtain ⟨x, e1, e2, q1, q2, q3, q4, q5, q6⟩ := at_ e
    obtain ⟨x', e1', e2', _⟩ := at_ e'
    show PySem.W.kitOne K (.ref (t.cl K k)) (.ref (t.cl K k')) = _
    rw [e2, e2', (q6 _ (List.mem_of_getElem? e1')).2]
    have h1 : (t.clss.map (·.1))[k]? = some x := by rw [List.getElem?_map, e1]; rfl
    have h2 : (t.clss.map (·.1))[k']? = some x' := by rw [List.getElem?_map, e1']; rfl
    congr 1
    by_cases hk : k = k'
    · subst hk
      rw [h1] at h2
      cases h2
      simp
    · have : x ≠ x' := fun z => hk ((List.getElem?_inj (List.getElem?_eq_some_iff.mp h1).1 ok.dif).mp (by rw [h1, h2, z]))
      simp [hk, this]
theorem dv_rep {c : Cs} {d : D} {v : Dv} (e : dvOf d = some v) : Rep c (fun _ => none) (v.v K) d := by
  cases d with
  | non => cases e; exact .non
  | bl b => cases e; exact .bl b
  | int i => cases e; exact .int i
  | str s => cases e; exact .str s
  | _ => cases e
theorem dvs_rep {c : Cs} : ∀ {ds : List D} {vs : List Dv}, dvsOf ds = some vs → Reps c (fun _ => none) (vs.map (Dv.v K)) ds
  | [], vs, e => by
    cases e
    exact .nil
  | d :: ds, vs, e => by
    unfold dvsOf at e
    split at e
    · rename_i v vs' h1 h2
      cases e
      exact .cons (dv_rep h1) (dvs_rep h2)
    · cases e
theorem tup_cls {x : Str} {vs : List Dv} (e : tupB K x vs = true) : ∃ o, K.lookup (ga K x) = some o ∧ o.cls = .type "tuple" := by
  unfold tupB at e
  split at e
  · rename_i c od its n osl q
    rw [Bool.and_eq_true, decide_eq_true_eq] at e
    exact ⟨_, q, by rw [e.1]⟩
  · cases e
theorem isStr_inj {v : Value} {a b : Str} (h1 : v.isStr a = true) (h2 : v.isStr b = true) : a = b := by
  cases v with
  | str s t => exact (eq_of_beq h1).symm.trans (eq_of_beq h2)
  | _ => cases h1
theorem look_none {α : Type} {x : Str} : ∀ {l : List (Str × α)}, l.lookup x = none → ∀ y ∈ l, y.1 ≠ x
  | [], _, y, hy => by cases hy
  | (z, b) :: l, h, y, hy => by
    rw [List.lookup_cons] at h
    by_cases e : x == z
    · rw [e] at h
      cases h
    · have e : (x == z) = false := by simpa using e
      rw [e] at h
      rcases List.mem_cons.mp hy with q | q
      · rw [q]
        exact fun z' => by
          have e' : ¬ (x = z) := by simpa using e
          exact e' z'.symm
      · exact look_none h y q
theorem Tx.gl (c : SaysA t.B (t.es.map DE.defA) t.erA K) (X : K.In h) (Gn : h.Ns mainGlobals mg) : (∀ x d, t.names.lookup x = some (.val d) → ∃ v u, mg x = some u ∧ RelV v u ∧ Rep (t.cs K) (fun _ => none) v d) ∧ ∀ x, t.names.lookup x = none → x ≠ "__name__" → mg x = none := by
  refine ⟨fun x d e => ?_, fun x e hn => ?_⟩
  · have b := Tx.nameOk c e
    have b : valB K x d = true := b
    have flat : ∀ {v : Dv}, dvOf d = some v → (match dvOf d, PySem.W.nsIn K mainGlobals x with
        | some v, some (some u) => relB (v.v K) u
        | _, _ => false) = true → ∃ v u, mg x = some u ∧ RelV v u ∧ Rep (t.cs K) (fun _ => none) v d := by
      intro v hv b
      rw [hv] at b
      split at b
      · rename_i v' u e1 e2
        cases e1
        exact ⟨_, u, PySem.W.mg_of X Gn e2, relB_ok b, dv_rep hv⟩
      · cases b
    cases d with
    | ktup xs =>
      unfold valB at b
      rw [Bool.and_eq_true] at b
      obtain ⟨b1, b2⟩ := b
      split at b2
      · rename_i vs hv
        exact ⟨.ref (ga K x), .ref (ga K x), PySem.W.mg_of X Gn (eqO_ok b1), rfl, .ktup (fun H => tupB_ok b2 H) (tup_cls b2) (dvs_rep hv)⟩
      · cases b2
    | non => exact flat rfl b
    | bl b' => exact flat rfl b
    | int i => exact flat rfl b
    | str s => exact flat rfl b
    | _ => cases b
  · have b := c.fact
    unfold Tx.B at b
    simp only [Bool.and_eq_true] at b
    have q := b.2
    unfold Tx.allB at q
    refine PySem.W.mg_none_of X Gn ?_
    unfold PySem.W.nsIn
    split at q
    · rename_i oc od es n osl hk
      rw [hk]
      dsimp only
      rw [Bool.and_eq_true, Bool.not_eq_true'] at q
      obtain ⟨q1, q2⟩ := q
      have none_ : es.toList.find? (·.key.isStr x) = none := by
        rw [List.find?_eq_none]
        intro y hy hs
        have z := List.all_eq_true.mp q2 y hy
        rw [Bool.or_eq_true, List.any_eq_true] at z
        rcases z with ⟨y', h1, h2⟩ | z
        · exact look_none e y' h1 (isStr_inj h2 hs)
        · exact hn (isStr_inj hs z)
      rw [none_, q1]
      rfl
    · cases q
end
end Ev
set_option Elab.async false
set_option linter.all false
set_option maxRecDepth 100000
set_option maxHeartbeats 4000000
namespace Ev
open PySem L2 He

/-! ## the own errors of a text -/
def ErShape (e : EX) : Prop :=
  (e.flds = [] ∧ ∃ (pa : Pos) (txt : Str) (kk : Nat) (a b c d e' f : Pos), (c.endLine == e'.line) = true ∧ defArgs e.st = veA [{ arg := "self", annotation := none, pos := pa }] ∧ defBody e.st = [veS txt kk a b c d e' f]) ∨
  (∃ (fld : Str) (pa pb : Pos) (txt : Str) (kk : Nat) (a b c d e' f a2 b2 c2 d2 : Pos), e.flds = [fld] ∧ (c.endLine == e'.line) = true ∧ VeBind fld pa pb ∧ (fld == ("self" : Str)) = false ∧ (fld == ("__debug__" : Str)) = false ∧
    defArgs e.st = veA [{ arg := "self", annotation := none, pos := pa }, { arg := fld, annotation := none, pos := pb }] ∧ defBody e.st = [veS txt kk a b c d e' f, veF fld a2 b2 c2 d2])
def scE (sc : Scope) (flds : List Str) : Bool := (match sc.kind with | .function => true | _ => false) && !sc.isCoroutine && !sc.isGenerator && decide (sc.names.lookup ("self" : Str) = some .local) && decide (sc.names.lookup ("super" : Str) = some .globalImplicit) &&
  decide (sc.names.lookup ("__class__" : Str) = some .free) && (sc.names.all fun y => match y.2 with | .cell => false | _ => true) && flds.all fun f => decide (sc.names.lookup f = some .local)
structure Tx.ErOk (t : Tx) : Prop where
  shp : ∀ e ∈ t.ers, e.has = true → ErShape e
  no : ∀ e ∈ t.ers, e.has = false → e.flds.length = 2
  sc : ∀ e ∈ t.ers, e.has = true → scE (defScope e.st) e.flds = true
  su : t.names.lookup ("super" : Str) = none
theorem oexB_ok {K : PySem.W.Frag} {C : Addr} (q : oexB K C = true) : ∃ nm q N bs bm sn sub ab col dd k0 k1 k2 k3 k5, K.lookup C = some (excClassObj nm q C N bs bm true sn sub ab col dd k0 k1 k2 k3 k5 "ValueError.__new__") ∧ PySem.HandSPX.refsVE bm = true := by
  unfold oexB at q
  split at q
  · rename_i dd cd sl ho
    split at q
    · rename_i C' bm k0 k1 k2 k3 n k5 hm hs
      simp only [Bool.and_eq_true, beq_iff_eq, Bool.not_eq_true'] at q
      obtain ⟨⟨⟨⟨rfl, rfl⟩, hdi⟩, hdel⟩, ht⟩ := q
      obtain ⟨nm, bs, mro, ns, qn, hd, sn, sub, ab, col, del⟩ := cd
      dsimp only at hm hdel hdi
      subst hm hdel hdi
      have hsl : sl = #[k0, k1, k2, k3, some (.builtin "ValueError.__new__"), k5] := by
        obtain ⟨l⟩ := sl
        simp only at hs
        rw [hs]
      subst hsl
      exact ⟨nm, qn, ns, bs, bm, sn, sub, ab, col, dd, k0, k1, k2, k3, k5, ho, ht⟩
    · cases q
  · cases q
theorem jdx_get {α : Type} : ∀ {l : List α} {n i : Nat} {x : α}, l[i]? = some x → (n + i, x) ∈ jdx l n
  | [], _, _, _, h => by simp at h
  | y :: l, n, 0, x, h => by
    simp at h
    subst h
    exact List.mem_cons_self
  | y :: l, n, i + 1, x, h => by
    have := jdx_get (l := l) (n := n + 1) (i := i) (x := x) (by simpa using h)
    rw [show n + 1 + i = n + (i + 1) by omega] at this
    exact List.mem_cons_of_mem _ this
section
variable {t : Tx} {K : PySem.W.Frag} {h : Heap} {mg : Str → Option Value}
theorem Tx.ex_at {n : Nat} {xi : ExcI} (e : t.G.excs[n]? = some xi) : ∃ d, t.ers[n]? = some d ∧ xi = ⟨d.flds, d.anc⟩ ∧ (t.cs K).ex n = ga K d.x ∧ (t.cs K).exf n = d.flds := by
  have e : (t.ers.map fun e => (⟨e.flds, e.anc⟩ : ExcI))[n]? = some xi := e
  rw [List.getElem?_map] at e
  cases q : t.ers[n]? with
  | none =>
    rw [q] at e
    cases e
  | some d =>
    rw [q] at e
    cases e
    refine ⟨d, rfl, rfl, ?_, ?_⟩
    · show (match t.ers[n]? with | some e => ga K e.x | none => 0) = _
      rw [q]
    · show (match t.ers[n]? with | some e => e.flds | none => []) = _
      rw [q]
theorem Tx.geFacts (c : SaysA t.B (t.es.map DE.defA) t.erA K) : PySem.W.nsIn K cStatics "thirdparty.any" = some none ∧ ∀ (n : Nat) (d : EX), t.ers[n]? = some d → d.anyB K = true ∧ (d.has = true → d.mkB K t.file = true) ∧
    ∀ (j : Nat) (d' : EX), t.ers[j]? = some d' → PySem.W.exmOne K (.ref (ga K d.x)) (.ref (ga K d'.x)) = some (d.anc.contains j) ∧ (d.anc.contains j = true → PySem.W.kitOne K (.ref (ga K d.x)) (.ref (ga K d'.x)) = some true) := by
  have b := c.fact
  unfold Tx.B at b
  simp only [Bool.and_eq_true] at b
  have g := b.1.1.1.1
  unfold Tx.geB at g
  rw [Bool.and_eq_true] at g
  refine ⟨eqO_ok g.1, fun n d hd => ?_⟩
  have q := List.all_eq_true.mp g.2 d (List.mem_of_getElem? hd)
  rw [Bool.and_eq_true, Bool.and_eq_true] at q
  refine ⟨q.1.1, fun hh => ?_, fun j d' hj => ?_⟩
  · have z := q.1.2
    rw [hh] at z
    simpa using z
  · have z := List.all_eq_true.mp q.2 (j, d') (by have := jdx_get (n := 0) hj; rwa [Nat.zero_add] at this)
    rw [Bool.and_eq_true, decide_eq_true_eq] at z
    refine ⟨z.1, fun hh => ?_⟩
    have z2 := z.2
    rw [hh] at z2
    simpa using z2
theorem Tx.ge (c : SaysA t.B (t.es.map DE.defA) t.erA K) (gi : GI (t.cs K) t.G) : GE (t.cs K) t.G := by
  obtain ⟨g1, g2⟩ := Tx.geFacts c
  have any : ∀ {n : Nat} {xi : ExcI}, t.G.excs[n]? = some xi → ∃ d, t.ers[n]? = some d ∧ xi = ⟨d.flds, d.anc⟩ ∧ (t.cs K).ex n = ga K d.x ∧ d.anyB K = true := fun {n xi} e => by
    obtain ⟨d, e1, e2, e3, e4⟩ := Tx.ex_at (K := K) e
    exact ⟨d, e1, e2, e3, (g2 n d e1).1⟩
  have un : ∀ {d : EX}, d.anyB K = true → (PySem.W.clsIn K (ga K d.x)).isSome = true ∧ PySem.W.hasDictIn K (ga K d.x) = true ∧ PySem.W.findIn K (.ref (ga K d.x)) "__getattribute__" = some (some (.builtin "BaseException.__getattribute__")) ∧
      PySem.W.findIn K (.ref (ga K d.x)) "__getattr__" = some none ∧ PySem.W.subIn K (.ref (ga K d.x)) (.type "BaseException") = some true ∧ PySem.W.findIn K (.ref (ga K d.x)) "__class__" = some (some (.builtin "object.__class__")) ∧
      PySem.W.mroIn K (ga K d.x) (.type "object") = some true ∧ ∀ f ∈ d.flds, PySem.W.findIn K (.ref (ga K d.x)) f = some none := fun {d} b => by
    unfold EX.anyB at b
    simp only [Bool.and_eq_true, decide_eq_true_eq, List.all_eq_true] at b
    obtain ⟨⟨⟨⟨⟨⟨⟨⟨b1, b2⟩, b3⟩, b4⟩, b5⟩, b6⟩, b7⟩, b8⟩, b9⟩ := b
    exact ⟨b2, b3, eqO_ok b4, eqO_ok b5, b6, eqO_ok b7, b8, fun f hf => eqO_ok (b9 f hf)⟩
  refine ⟨fun n xi e => ?_, fun n xi e => ?_, fun n xi e => ?_, fun n xi e => ?_, fun n xi e => ?_, fun n xi e => ?_, fun n xi e => ?_, fun n xi f e hf => ?_, gi.hn, gi.tk, fun n j xi xj e e' hc => ?_, fun n j xi xj e e' => ?_, fun n xi e => ?_⟩
  · obtain ⟨d, e1, e2, e3, b⟩ := any e; rw [e3]; exact (un b).1
  · obtain ⟨d, e1, e2, e3, b⟩ := any e; rw [e3]; exact (un b).2.1
  · obtain ⟨d, e1, e2, e3, b⟩ := any e; rw [e3]; exact (un b).2.2.1
  · obtain ⟨d, e1, e2, e3, b⟩ := any e; rw [e3]; exact (un b).2.2.2.1
  · obtain ⟨d, e1, e2, e3, b⟩ := any e; rw [e3]; exact (un b).2.2.2.2.1
  · obtain ⟨d, e1, e2, e3, b⟩ := any e; rw [e3]; exact (un b).2.2.2.2.2.1
  · obtain ⟨d, e1, e2, e3, b⟩ := any e; rw [e3]; exact (un b).2.2.2.2.2.2.1
  · obtain ⟨d, e1, e2, e3, b⟩ := any e; rw [e3]; subst e2; exact (un b).2.2.2.2.2.2.2 f hf
  · obtain ⟨d, e1, e2, e3, b⟩ := any e
    obtain ⟨d', e1', e2', e3', b'⟩ := any e'
    rw [e3, e3']
    subst e2
    exact ((g2 n d e1).2.2 j d' e1').2 hc
  · obtain ⟨d, e1, e2, e3, b⟩ := any e
    obtain ⟨d', e1', e2', e3', b'⟩ := any e'
    rw [e3, e3']
    subst e2
    exact ((g2 n d e1).2.2 j d' e1').1
  · obtain ⟨d, e1, e2, e3, e4⟩ := Tx.ex_at (K := K) e
    rw [e4, e2]
theorem Tx.gx {P : PySem.Program} (ok : t.ErOk) (c : SaysA t.B (t.es.map DE.defA) t.erA K) (X : K.In h) (Gn : h.Ns mainGlobals mg) (hf : (P.main.file : Str) = t.file) (ht : (P.main.scope.names.lookup ("super" : Str)).isSome = false) : GX P (t.cs K) t.G mg := by
  obtain ⟨g1, g2⟩ := Tx.geFacts c
  obtain ⟨_, gl2⟩ := Tx.gl (t := t) c X Gn
  refine ⟨fun x n xi e e2 => ?_, gl2 "super" ok.su (by decide), fun n xi e => ?_⟩
  · obtain ⟨d, d1, d2, d3, d4⟩ := Tx.ex_at (K := K) e2
    have b := Tx.nameOk c e
    unfold Tx.nameB at b
    dsimp only at b
    rw [d1] at b
    dsimp only at b
    rw [Bool.and_eq_true, decide_eq_true_eq] at b
    rw [d3, PySem.W.mg_of X Gn (eqO_ok b.1), b.2]
  · obtain ⟨d, d1, d2, d3, d4⟩ := Tx.ex_at (K := K) e
    obtain ⟨a1, a2, a3⟩ := g2 n d d1
    have kp : PySem.W.keepIn K (.ref (ga K d.x)) = true := by
      unfold EX.anyB at a1
      simp only [Bool.and_eq_true] at a1
      exact a1.1.1.1.1.1.1.1.1
    have exB : PySem.W.subIn K (.ref (ga K d.x)) (.type "BaseException") = some true := by
      unfold EX.anyB at a1
      simp only [Bool.and_eq_true, decide_eq_true_eq] at a1
      exact a1.1.1.1.2
    have hmem := List.mem_of_getElem? d1
    have vet : d.has = true → ∀ (as : List Arg) (body : List Stmt), defArgs d.st = veA as → defBody d.st = body → as.head?.map (·.arg) = some ("self" : Str) → ∃ cda cc, VeT P K (ga K d.x) (ma K (ga K d.x) "__init__") as body d.qual (defScope d.st) cda cc := by
      intro hh as body ha hb hself
      have b := a2 hh
      unfold EX.mkB at b
      simp only [Bool.and_eq_true, decide_eq_true_eq] at b
      obtain ⟨⟨⟨⟨⟨⟨⟨⟨b1, b2⟩, b3⟩, b4⟩, b5⟩, b6⟩, b7⟩, b8⟩, b9⟩ := b
      have hin : d.erA ∈ t.erA := List.mem_map.mpr ⟨d, List.mem_filter.mpr ⟨hmem, hh⟩, rfl⟩
      obtain ⟨cda, cc, f1, f2, ⟨ccl, cdd, vs, ccs, f, tf, f3, f4, f5⟩, f6⟩ := ErA.fn (c.err_ hin) b6
      have sc := ok.sc d hmem hh
      unfold scE at sc
      simp only [Bool.and_eq_true, Bool.not_eq_true', decide_eq_true_eq, List.all_eq_true] at sc
      obtain ⟨⟨⟨⟨⟨⟨⟨s1, s2⟩, s3⟩, s4⟩, s5⟩, s6⟩, s7⟩, s8⟩ := sc
      refine ⟨cda, cc, ⟨⟨oexB_ok b1, eqO_ok b2, exB, b3, kp⟩, eqO_ok b4, b5, ?_, f2, ⟨ccl, cdd, vs, ccs, f, tf, f3, f4, by rw [f5, hf]; exact beq_self_eq_true _⟩, f6, ht, g1, b7, eqO_ok b8, b9, ?_, s2, s3, s4, s5, s6, fun x hx hc => ?_, hself⟩⟩
      · obtain ⟨oc, od, doc, pm, an, ct, osl, lk⟩ := f1
        have lk : K.lookup (ma K (ga K d.x) "__init__") = some ⟨oc, od, .func (PySem.W.fnX "__init__" d.qual (defArgs d.st) (defBody d.st) (defScope d.st) [("__class__", cc)] .none .none doc pm an (.ref cda) ct), osl⟩ := lk
        rw [ha, hb] at lk
        exact ⟨oc, od, doc, pm, an, ct, osl, lk⟩
      · split at s1
        · assumption
        · cases s1
      · have q := s7 x hx
        rw [hc] at q
        cases q
    refine ⟨by rw [d3]; exact kp, by rw [d4, d2], fun h0 => ?_, fun fld h1 => ?_⟩
    · rw [d2] at h0
      have h0 : d.flds = [] := h0
      cases hh : d.has with
      | false =>
        have := ok.no d hmem hh
        rw [h0] at this
        cases this
      | true =>
        rcases ok.shp d hmem hh with ⟨_, pa, txt, kk, a, b, c', d', e', f, p1, p2, p3⟩ | ⟨fld, _, _, _, _, _, _, _, _, _, _, _, _, _, _, p1, _⟩
        · obtain ⟨cda, cc, T⟩ := vet hh _ _ p2 p3 rfl
          refine ⟨ma K (ga K d.x) "__init__", d.qual, defScope d.st, cda, cc, pa, txt, kk, a, b, c', d', e', f, p1, ?_⟩
          rw [d3]
          exact T
        · rw [h0] at p1
          cases p1
    · rw [d2] at h1
      have h1 : d.flds = [fld] := h1
      cases hh : d.has with
      | false =>
        have := ok.no d hmem hh
        rw [h1] at this
        cases this
      | true =>
        rcases ok.shp d hmem hh with ⟨p1, _⟩ | ⟨fld', pa, pb, txt, kk, a, b, c', d', e', f, a2', b2', c2', d2', p1, p2, p3, p4, p5, p6, p7⟩
        · rw [h1] at p1
          cases p1
        · rw [h1] at p1
          cases p1
          obtain ⟨cda, cc, T⟩ := vet hh _ _ p6 p7 rfl
          have sc := ok.sc d hmem hh
          unfold scE at sc
          simp only [Bool.and_eq_true, decide_eq_true_eq, List.all_eq_true] at sc
          have hno : PySem.W.findIn K (.ref (ga K d.x)) fld = some none := by
            unfold EX.anyB at a1
            simp only [Bool.and_eq_true, List.all_eq_true] at a1
            exact eqO_ok (a1.2 fld (by rw [h1]; exact List.mem_singleton.mpr rfl))
          refine ⟨ma K (ga K d.x) "__init__", d.qual, defScope d.st, cda, cc, pa, pb, txt, kk, a, b, c', d', e', f, a2', b2', c2', d2', p2, p3, p4, p5, sc.2 fld (by rw [h1]; exact List.mem_singleton.mpr rfl), ?_, ?_⟩
          · rw [d3]; exact hno
          · rw [d3]; exact T
end
end Ev
set_option linter.all false
set_option maxHeartbeats 1000000
namespace Ev
open PySem

/-! ## equations of the evaluator, to work with -/
section
variable {G : Gm} {kps : List KP} {R Rc : Rec} {fr : Fr} {n : Nat} {σ : Env} {S : Store}
theorem ev_succ : ev G kps (n + 1) = evS G kps (ev G kps n) 64 := rfl
theorem E_succ {e : Expr} : (evS G kps Rc (n + 1)).E fr σ e S = stepE G kps (evS G kps Rc n) Rc fr σ e S := rfl
theorem T_succ {e : Expr} : (evS G kps Rc (n + 1)).T fr σ e S = stepT G (evS G kps Rc n) Rc fr σ e S := rfl
theorem B_succ {sts : List Stmt} : (evS G kps Rc (n + 1)).B fr σ sts S = stepB G (evS G kps Rc n) fr σ sts S := rfl
/-- a slot's value -/
def vr (i : Nat) (σ : Env) (S : Store) : Out RV := match σ[i]? with | some (some w) => .ok (.w w) S | _ => .bad
theorem e_const {k : Const} {j : Nat} {p : Pos} : stepE G kps R Rc fr σ (.Constant k j p) S = opt ((constD k).map .d) S := rfl
theorem e_name {x : Str} {p : Pos} : stepE G kps R Rc fr σ (.Name x p) S = if isVar fr x = true then (match idx fr.N x with | some i => vr i σ S | none => .bad) else if isGl fr x = true then (match G.names.lookup x with | some (.val d) => .ok (.d d) S | _ => .bad) else .bad := rfl
theorem e_bin {a b : Expr} {op : Operator} {p : Pos} : stepE G kps R Rc fr σ (.BinOp a op b p) S = binE G R Rc fr a op b σ S := rfl
theorem e_cmp {a : Expr} {ops : List CmpOp} {bs : List Expr} {p : Pos} : stepE G kps R Rc fr σ (.Compare a ops bs p) S = cmpE G R Rc fr a ops bs σ S := rfl
theorem e_bool {op : BoolOp} {es : List Expr} {p : Pos} : stepE G kps R Rc fr σ (.BoolOp op es p) S = boolV (fun e σ S => R.E fr σ e S) σ op es S := rfl
theorem e_not {a : Expr} {p : Pos} : stepE G kps R Rc fr σ (.UnaryOp .Not a p) S = (R.E fr σ a S).bind fun v S1 => opt ((truO S1 v).map fun k => .d (.bl (!k))) S1 := rfl
theorem e_neg {a : Expr} {p : Pos} : stepE G kps R Rc fr σ (.UnaryOp .USub a p) S = (R.E fr σ a S).bind fun v S1 => opt ((partI v).map fun i => .d (.int (-i))) S1 := rfl
theorem e_if {t a b : Expr} {p : Pos} : stepE G kps R Rc fr σ (.IfExp t a b p) S = (R.T fr σ t S).bind fun k S1 => if k = true then R.E fr σ a S1 else R.E fr σ b S1 := rfl
theorem e_tup {es : List Expr} {k : Nat} {p : Pos} : stepE G kps R Rc fr σ (.Tuple es k p) S = (evArgs R fr σ es S).bind mkTup := rfl
theorem e_lst {es : List Expr} {p : Pos} : stepE G kps R Rc fr σ (.List es p) S = (evArgs R fr σ es S).bind mkLst := rfl
theorem e_sub {a i : Expr} {p : Pos} : stepE G kps R Rc fr σ (.Subscript a i p) S = subE R fr a i σ S := rfl
theorem e_attr {o : Expr} {f : Str} {p : Pos} : stepE G kps R Rc fr σ (.Attribute o f p) S = if noSuper o = true then (R.E fr σ o S).bind fun v S1 => attrO G Rc f v S1 else .bad := rfl
theorem e_call {f : Expr} {es : List Expr} {kws : List Keyword} {p : Pos} : stepE G kps R Rc fr σ (.Call f es kws p) S = callE G kps R Rc fr f es kws p σ S := rfl
theorem e_lc {elt : Expr} {gs : List Comprehension} {scope : Scope} {p : Pos} : stepE G kps R Rc fr σ (.ListComp elt gs scope p) S = lcF G R fr elt gs scope σ S := rfl
theorem bind_ok {α β : Type} {a : α} {k : α → Store → Out β} : (Out.ok a S).bind k = k a S := rfl
theorem bind_bad {α β : Type} {k : α → Store → Out β} : (Out.bad : Out α).bind k = .bad := rfl
theorem bind_exc {α β : Type} {c : Nat} {fs : List D} {k : α → Store → Out β} : (Out.exc c fs S : Out α).bind k = .exc c fs S := rfl
theorem lift_ok {α : Type} {a : α} {k : α → Store → SOut} : liftS (.ok a S) σ k = k a S := rfl
theorem lift_bad {α : Type} {k : α → Store → SOut} : liftS (.bad : Out α) σ k = .bad := rfl
theorem lift_exc {α : Type} {c : Nat} {fs : List D} {k : α → Store → SOut} : liftS (.exc c fs S : Out α) σ k = .exc c fs σ S := rfl
theorem stepB_eq {sts : List Stmt} : stepB G R fr σ sts S = blockS (fun st σ S => stepS G R fr st σ S) sts σ S := rfl
theorem block_nil {f : Stmt → Env → Store → SOut} : blockS f [] σ S = .nx σ S := rfl
theorem block_cons {f : Stmt → Env → Store → SOut} {st : Stmt} {r : List Stmt} : blockS f (st :: r) σ S = match f st σ S with
    | .nx σ' S' => blockS f r σ' S'
    | o => o := rfl
theorem s_ret {e : Expr} {p : Pos} : stepS G R fr (.Return (some e) p) σ S = liftS (R.E fr σ e S) σ fun rv S1 => .rt rv S1 := rfl
theorem s_retN {p : Pos} : stepS G R fr (.Return none p) σ S = .rt (.d .non) S := rfl
theorem s_asg1 {t e : Expr} {p : Pos} : stepS G R fr (.Assign [t] e p) σ S = asgE G R fr t e σ S := rfl
theorem s_exp {e : Expr} {p : Pos} : stepS G R fr (.Expr e p) σ S = if noComp e = true then liftS (R.E fr σ e S) σ fun _ S1 => .nx σ S1 else .bad := rfl
theorem s_if {t : Expr} {x y : List Stmt} {p : Pos} : stepS G R fr (.If t x y p) σ S = liftS (R.T fr σ t S) σ fun b S1 => if b = true then R.B fr σ x S1 else R.B fr σ y S1 := rfl
end
end Ev
set_option Elab.async false
set_option linter.all false
set_option maxRecDepth 100000
set_option maxHeartbeats 4000000
namespace Ev
open PySem PySem.Spec PyProof.Rows L2
/-! ## the law's body behind its first statement -/
def mixI (s c : Int) : Int := (s * 48271 + c % 2147483629 + 1) % 2147483647
def law0 (st : Int) (ns : List Int) : Store := [.lst [.d (.int st), .ref 1, .d (.int 0)], .lst (ns.map fun i => .d (.int i))]
theorem ints_reps {c : Cs} {F : Hp} {ρ : List Addr} : ∀ ns : List Int, WReps c F ρ (ns.map V.int) (ns.map fun i => W.d (.int i))
  | [] => .nil
  | i :: ns => .cons (.d (.int i)) (ints_reps ns)
/-- the state that the law starts from -/
theorem law_at {c : Cs} {H : Hp} {p q : Addr} {st : Int} {ns : List Int} {a : Addr} {n : Nat} (hq : H q = none) (hp : (upd H q (.lst (ns.map V.int))) p = none) :
    At c (none :: some (.ref 0) :: List.replicate n none) (law0 st ns) (some (.ref a) :: some (.ref p) :: List.replicate n none) (fun _ => none) (upd (upd H q (.lst (ns.map V.int))) p (.lst [.int st, .ref q, .int 0])) [p, q] := by
  have hne : q ≠ p := fun e => by
    rw [← e, upd_same] at hp
    cases hp
  refine ⟨⟨by simp, fun i w e => ?_⟩, ⟨same_none _, rfl, ?_, fun _ _ => rfl, fun m cc b h1 h2 => ?_⟩⟩
  · match i with
    | 0 => cases e
    | 1 =>
      cases e
      exact ⟨.ref p, rfl, .ref rfl⟩
    | i + 2 =>
      have e : (List.replicate n (none : Option W))[i]? = some (some w) := e
      rw [List.getElem?_replicate] at e
      split at e <;> cases e
  · exact List.nodup_cons.mpr ⟨by simpa using Ne.symm hne, List.nodup_cons.mpr ⟨by simp, List.nodup_nil⟩⟩
  · match m with
    | 0 =>
      cases h1
      cases h2
      exact ⟨_, upd_same, .cons (.d (.int _)) (.cons (.ref rfl) (.cons (.d (.int _)) .nil))⟩
    | 1 =>
      cases h1
      cases h2
      exact ⟨_, by rw [upd_ne hne, upd_same], ints_reps ns⟩
    | m + 2 => cases h2
def spLaw (K : PySem.W.Frag) : Sp := fun vs H Q _ => ∃ (a : Addr) (ns : List Int), vs = [.ref a] ∧ SqL K H a (ns.map V.int) ∧ ns.length ≤ 63 ∧ ∀ H', Q (.bl true) H'
/-- what is promised of the law, behind the evaluator's answer -/
theorem law_end {c : Cs} {Wx : WX} {H : Hp} {p q : Addr} {st : Int} {ns : List Int} {a : Addr} {n : Nat} {D : Ends} {f : Env → Store → SOut} {S' : Store} (hq : H q = none) (hp : (upd H q (.lst (ns.map V.int))) p = none)
    (hf : f (none :: some (.ref 0) :: List.replicate n none) (law0 st ns) = .rt (.d (.bl true)) S') (hD : ∀ H', D.rt (.bl true) H') :
    tS c Wx f D (some (.ref a) :: some (.ref p) :: List.replicate n none) (upd (upd H q (.lst (ns.map V.int))) p (.lst [.int st, .ref q, .int 0])) := by
  refine ⟨_, _, _, _, law_at hq hp, ?_⟩
  rw [hf]
  intro v F' H' ρ' _ _ vr
  cases vr with
  | d r =>
    cases r
    exact hD H'
end Ev
set_option linter.all false
set_option maxHeartbeats 1000000
namespace Ev
open PySem

/-! ## a def's body without its text: the same evaluation, the names looked up -/
abbrev CE := Env → Store → Out RV
abbrev CT := Env → Store → Out Bool
abbrev CS := Env → Store → SOut
/-- a written argument, or one with a star -/
inductive CA where
  | p (f : CE) | s (f : CE)
section
variable (G : Gm) (Rc : Rec)
def cK (d : D) : CE := fun _ S => .ok (.d d) S
def cV (i : Nat) : CE := fun σ S => vr i σ S
def cA : List CA → Env → Store → Out (List W)
  | [], _, S => .ok [] S
  | .s e :: r, σ, S => (e σ S).bind fun v S1 => match view S1 v with
    | some (.tup xs) => (cA r σ S1).bind fun ws S2 => .ok (xs.map .d ++ ws) S2
    | some (.lst xs) => (cA r σ S1).bind fun ws S2 => .ok (xs.map .d ++ ws) S2
    | _ => .bad
  | .p e :: r, σ, S => (e σ S).bind fun v S1 => (cA r σ S1).bind fun ws S2 => .ok (v.toW :: ws) S2
def cAK : List Bool → List CE → Env → Store → Out (List W)
  | _, [], _, S => .ok [] S
  | bs, e :: es, σ, S => (e σ S).bind fun v S1 => (cAK bs.tail es σ (keepW (bs.headD false) v S1).2).bind fun ws S2 => .ok ((keepW (bs.headD false) v S1).1 :: ws) S2
def cBin (op : Operator) (a b : CE) : CE := fun σ S => (a σ S).bind fun v S1 => (b σ S1).bind fun u S2 => match view S2 v, view S2 u with
      | some x, some y => opt (binD op x y) S2
      | _, _ => .bad
def cOr (a b : CE) : CE := fun σ S => (a σ S).bind fun v S1 => (b σ S1).bind fun u S2 => orF G Rc v u S2
def cEq (a b : CE) : CE := fun σ S => (a σ S).bind fun v S1 => (b σ S1).bind fun u S2 => eqF G Rc v u S2
def cCmp (op : CmpOp) (a b : CE) : CE := fun σ S => cmpF op a b σ S
def cCh (op op' : CmpOp) (a b e : CE) : CE := fun σ S => chainF op op' a b e σ S
def cBl (op : BoolOp) : List CE → CE
  | [], _, _ => .bad
  | [e], σ, S => e σ S
  | e :: e' :: es, σ, S => (e σ S).bind fun v S1 => match op, truO S1 v with
    | .And, some true => cBl op (e' :: es) σ S1
    | .And, some false => .ok v S1
    | .Or, some true => .ok v S1
    | .Or, some false => cBl op (e' :: es) σ S1
    | _, none => .bad
def cNot (a : CE) : CE := fun σ S => (a σ S).bind fun v S1 => opt ((truO S1 v).map fun k => .d (.bl (!k))) S1
def cNeg (a : CE) : CE := fun σ S => (a σ S).bind fun v S1 => opt ((partI v).map fun i => .d (.int (-i))) S1
def cIf (t : CT) (a b : CE) : CE := fun σ S => (t σ S).bind fun k S1 => if k = true then a σ S1 else b σ S1
def cTup (es : List CA) : CE := fun σ S => (cA es σ S).bind mkTup
def cLst (es : List CA) : CE := fun σ S => (cA es σ S).bind mkLst
def cDic : CE := fun _ S => .ok (.ownd false [] []) S
def cSub (a i : CE) : CE := fun σ S => (a σ S).bind fun v S1 => (i σ S1).bind fun u S2 => opt (subRV S2 v u) S2
def cO (o : Option CE) : Env → Store → Out (Option Int) := match o with
  | none => fun _ S => .ok none S
  | some e => partO fun σ S => e σ S
def cSl (a : CE) (lo hi : Option CE) : CE := fun σ S => (a σ S).bind fun v S1 => match cO lo σ S1 with
    | .ok l S2 => match cO hi σ S2 with
      | .ok u S3 => opt ((view S3 v).bind fun x => sliceD x l u) S3
      | .exc n fs S3 => .exc n fs S3
      | .bad => .bad
    | .exc n fs S2 => .exc n fs S2
    | .bad => .bad
def cAt (f : Str) (o : CE) : CE := fun σ S => (o σ S).bind fun v S1 => attrO G Rc f v S1
def cBi (o : List D → Option RV) (es : List CA) : CE := fun σ S => (cA es σ S).bind (biO o)
def cIs (t : Ty) (e : CE) : CE := fun σ S => (e σ S).bind fun rv S1 => isiS G t rv S1
def cIsT (ts : List Ty) (e : CE) : CE := fun σ S => (e σ S).bind fun rv S1 => isiT G ts rv S1
def cFn (i m : Nat) (bs : List Bool) (es : List CE) : CE := fun σ S => (cAK bs es σ S).bind fun ws S1 => callX G Rc i m ws S1
def cMk (kp : KP) (bs : List Bool) (es us : List CE) : CE := fun σ S => (cAK bs es σ S).bind fun ws S1 => (cAK [] us σ S1).bind fun zs S2 => makeK G Rc kp ws zs S2
def cMt (m : Str) (n : Nat) (o : CE) (es : List CE) : CE := fun σ S => (o σ S).bind fun v S1 => methO G Rc m n (fun i => cAK (flagsOf G i 1) es σ) v S1
/-! what is walked; targets -/
def wE_ (e : CE) : Env → Store → Out Src := fun σ S => (e σ S).bind fun v S1 => optS (srcO v S1) S1
def wEn (es : List CA) : Env → Store → Out Src := fun σ S => (cA es σ S).bind enS
def wZp (es : List CA) : Env → Store → Out Src := fun σ S => (cA es σ S).bind zpS
def wRg (es : List CA) : Env → Store → Out Src := fun σ S => (cA es σ S).bind fun ws S1 => match ws with
      | [w] => optS (rgO1 w) S1
      | _ => .bad
def wRg2 (es : List CA) : Env → Store → Out Src := fun σ S => (cA es σ S).bind fun ws S1 => match ws with
      | [w, u] => optS (rgO w u) S1
      | _ => .bad
inductive CG where
  | n (i : Nat) | t (l : List CG)
mutual
def CG.go : CG → D → Env → Option Env
  | .n i, d, σ => some (σ.set i (some (.d d)))
  | .t l, .tup xs, σ => if xs.length = l.length then CG.gos l xs σ else none
  | .t l, .lst xs, σ => if xs.length = l.length then CG.gos l xs σ else none
  | _, _, _ => none
def CG.gos : List CG → List D → Env → Option Env
  | [], [], σ => some σ
  | g :: ts, x :: xs, σ => match CG.go g x σ with
    | some σ1 => CG.gos ts xs σ1
    | none => none
  | _, _, _ => none
end
def cLc (it : Env → Store → Out Src) (tg : CG) (T : CT) (E : CE) (wp : List Nat) : CE := fun σ S => (it σ S).bind fun src S1 => lcS tg.go T E (curOf src) (wipeE σ wp) (turnsOf src) 0 [] S1
def tTr : CT := fun _ S => .ok true S
/-! tests -/
def tE_ (e : CE) : CT := fun σ S => (e σ S).bind fun v S1 => match truO S1 v with | some k => .ok k S1 | none => .bad
def tNt (t : CT) : CT := fun σ S => (t σ S).bind fun k S1 => .ok (!k) S1
def tC_ (e : CE) : CT := fun σ S => (e σ S).bind fun v S1 => match asB v with | some k => .ok k S1 | none => .bad
def tBl (op : BoolOp) : List CT → CT
  | [], _, _ => .bad
  | [e], σ, S => e σ S
  | e :: e' :: es, σ, S => (e σ S).bind fun k S1 => match op, k with
    | .And, true => tBl op (e' :: es) σ S1
    | .And, false => .ok false S1
    | .Or, true => .ok true S1
    | .Or, false => tBl op (e' :: es) σ S1
/-! statements -/
def sBk : List CS → CS
  | [], σ, S => .nx σ S
  | st :: r, σ, S => match st σ S with
    | .nx σ' S' => sBk r σ' S'
    | o => o
def sRt (e : CE) : CS := fun σ S => liftS (e σ S) σ fun rv S1 => .rt rv S1
def sRn : CS := fun _ S => .rt (.d .non) S
def sEx (e : CE) : CS := fun σ S => liftS (e σ S) σ fun _ S1 => .nx σ S1
def sPs : CS := fun σ S => .nx σ S
def sBr : CS := fun σ S => .bk σ S
def sCt : CS := fun σ S => .ct σ S
def sIf (t : CT) (x y : CS) : CS := fun σ S => liftS (t σ S) σ fun b S1 => if b = true then x σ S1 else y σ S1
def sSt (i : Nat) (b : Bool) (e : CE) : CS := fun σ S => liftS (e σ S) σ fun rv S1 => .nx (σ.set i (some (keepW b rv S1).1)) (keepW b rv S1).2
def sP2 (i j : Nat) (bs : List Bool) (es : List CE) : CS := fun σ S => liftS (cAK bs es σ S) σ fun ws S1 => match ws with
  | [v, w] => .nx ((σ.set i (some v)).set j (some w)) S1
  | _ => .bad
def sP3 (i j k : Nat) (bs : List Bool) (es : List CE) : CS := fun σ S => liftS (cAK bs es σ S) σ fun ws S1 => match ws with
  | [v, w, u] => .nx (((σ.set i (some v)).set j (some w)).set k (some u)) S1
  | _ => .bad
def sTg (t : CG) (e : CE) : CS := fun σ S => liftS (e σ S) σ fun rv S1 => match rv.toW with
  | .d d => match t.go d σ with
    | some σ' => .nx σ' S1
    | none => .bad
  | _ => .bad
def sFd (f : Str) (b : Bool) (o e : CE) : CS := fun σ S => liftS (e σ S) σ fun rv S1 => liftS (o σ (keepW b rv S1).2) σ fun ov S2 => match setF G f (keepW b rv S1).1 ov S2 with
      | some S3 => .nx σ S3
      | none => .bad
def sIx (o i e : CE) : CS := fun σ S => liftS (e σ S) σ fun rv S1 => liftS (o σ S1) σ fun ov S2 => liftS (i σ S2) σ fun iv S3 => match setI iv rv.toW ov S3 with
      | some S4 => .nx σ S4
      | none => .bad
def sAg (op : Operator) (i : Nat) (e : CE) : CS := fun σ S => match σ[i]? with
        | some (some w) => liftS (e σ S) σ fun rv S1 => match augI op (.w w) rv with
          | some r => .nx (σ.set i (some r.toW)) S1
          | none => .bad
        | _ => .bad
def sAf (op : Operator) (f : Str) (o e : CE) : CS := fun σ S => liftS (o σ S) σ fun ov S1 => match fldW G f ov S1 with
      | some w => liftS (e σ S1) σ fun rv S2 => match augI op (.w w) rv with
        | some r => augE G f ov r σ S1 S2
        | none => .bad
      | none => .bad
def sFr (it : Env → Store → Out Src) (tg : CG) (b : CS) : CS := fun σ S => liftS (it σ S) σ fun src S1 => forS tg.go (fun σ S => b σ S) (curOf src) (turnsOf src) 0 σ S1
def sWh (t : CT) (b : CS) : CS := fun σ S => whileS (fun σ S => t σ S) (fun σ S => b σ S) line σ S
def sR0 (n : Nat) : CS := fun σ S => .exc n [] σ S
def sR1 (n : Nat) (e : CE) : CS := fun σ S => liftS (e σ S) σ fun v S1 => match v.toW with
    | .d x => .exc n [x] σ S1
    | _ => .bad
/-- a clause: the error's number, the name's slot, the slot that is set (kept as a cell?), its value -/
structure CH where
  j : Nat
  nm : Option Nat
  i : Nat
  b : Bool
  v : ExcI → List D → Option RV
def chS : List CH → ExcI → Nat → List D → CS
  | [], _, n, fs, σ, S => .exc n fs σ S
  | h :: r, xi, n, fs, σ, S => if xi.anc.contains h.j then (match h.v xi fs, (some h.i : Option Nat) with
      | some rv, some i => if slotIn h.nm σ then .nx (unE h.nm ((unE h.nm σ).set i (some (keepW h.b rv S).1))) (keepW h.b rv S).2 else .bad
      | _, _ => .bad) else chS r xi n fs σ S
def sTy (b : CS) (hs : List CH) : CS := fun σ S => match b σ S with
    | .exc n fs σ' S' => match G.excs[n]? with
      | some xi => chS hs xi n fs σ' S'
      | none => .bad
    | o => o
end
end Ev
set_option linter.all false
set_option maxHeartbeats 1000000
namespace Ev
open PySem

/-! ## calls of defs by their bodies without names -/
def outP (G : Gm) (S : Store) (o : SOut) : Out RV := match o with
  | .rt v S' => match give G S' v with
    | some v' => .ok v' S
    | none => .bad
  | .nx _ _ => .ok (.d .non) S
  | .exc c fs _ _ => .exc c fs S
  | _ => .bad
def outI (o : SOut) : Out RV := match o with
  | .rt v S' => .ok v S'
  | .nx _ S' => .ok (.d .non) S'
  | .exc c fs _ S' => .exc c fs S'
  | _ => .bad
theorem callF_eq {G : Gm} {R : Rec} {i : Nat} {fi : FnI} {ws : List W} {S : Store} {r : CS} (hf : G.fns[i]? = some fi) (hl : ws.length = fi.ps.length) (q : ∀ σ S, R.B ⟨fi.N, L2.defScope fi.st, fi.cells, []⟩ σ (L2.defBody fi.st) S = r σ S) :
    callF G R i ws S = if pureW ws = true then outP G S (r (start fi.N ws) []) else outI (r (start fi.N ws) S) := by
  unfold callF
  rw [hf]
  dsimp only
  rw [if_pos hl]
  unfold runB
  rw [q, q]
  by_cases h : pureW ws = true
  · rw [if_pos h, if_pos h]
    cases r (start fi.N ws) [] <;> rfl
  · rw [if_neg h, if_neg h]
    rfl
section
variable {g : D → Env → Option Env} {T : CT} {E : CE} {σ : Env} {S : Store}
/-- a comprehension over known items, all of them taken -/
theorem lc_all (f : D → D) : ∀ (xs : List D) (ys : List D) (m : Nat), (∀ x ∈ xs, ∃ σ1, g x σ = some σ1 ∧ T σ1 S = .ok true S ∧ E σ1 S = .ok (.d (f x)) S) → ys.length + xs.length < line → m = xs.length + 1 →
    ∀ zs : List D, zs.length = ys.length → lcS g T E (curOf (.fix (ys ++ xs))) σ m ys.length zs S = .ok (.own (zs ++ xs.map f)) S
  | [], ys, m, _, _, hm, zs, hz => by
    subst hm
    unfold lcS
    have : curOf (.fix (ys ++ [])) S ys.length = some none := by
      unfold curOf
      simp
    rw [this]
    simp
  | x :: xs, ys, m, h, hl, hm, zs, hz => by
    subst hm
    have hl : ys.length + (xs.length + 1) < line := hl
    obtain ⟨σ1, h1, h2, h3⟩ := h x List.mem_cons_self
    have ih := lc_all f xs (ys ++ [x]) (xs.length + 1) (fun y hy => h y (List.mem_cons_of_mem _ hy)) (by rw [List.length_append]; show ys.length + 1 + xs.length < line; omega) rfl (zs ++ [f x]) (by rw [List.length_append, List.length_append, hz]; rfl)
    unfold lcS
    have : curOf (.fix (ys ++ x :: xs)) S ys.length = some (some x) := by
      unfold curOf
      simp
    rw [this]
    dsimp only
    rw [h1]
    dsimp only
    rw [h2]
    dsimp only
    rw [h3]
    show (if zs.length < line then lcS g T E (curOf (.fix (ys ++ x :: xs))) σ (xs.length + 1) (ys.length + 1) (zs ++ [f x]) S else .bad) = _
    rw [if_pos (by omega)]
    rw [show ys ++ x :: xs = ys ++ [x] ++ xs by simp, show ys.length + 1 = (ys ++ [x]).length by simp]
    rw [ih, List.append_assoc]
    rfl
theorem lc_map (f : D → D) {xs : List D} (h : ∀ x ∈ xs, ∃ σ1, g x σ = some σ1 ∧ T σ1 S = .ok true S ∧ E σ1 S = .ok (.d (f x)) S) (hl : xs.length < line) : lcS g T E (curOf (.fix xs)) σ (turnsOf (.fix xs)) 0 [] S = .ok (.own (xs.map f)) S := by
  have := lc_all f xs [] (xs.length + 1) h (by simpa using hl) rfl [] rfl
  exact this
/-- a comprehension over known items, those of p taken -/
theorem lc_some (p : D → Bool) (f : D → D) : ∀ (xs : List D) (ys : List D) (m : Nat), (∀ x ∈ xs, ∃ σ1, g x σ = some σ1 ∧ T σ1 S = .ok (p x) S ∧ (p x = true → E σ1 S = .ok (.d (f x)) S)) → ys.length + xs.length < line → m = xs.length + 1 →
    ∀ zs : List D, zs.length ≤ ys.length → lcS g T E (curOf (.fix (ys ++ xs))) σ m ys.length zs S = .ok (.own (zs ++ (xs.filter p).map f)) S
  | [], ys, m, _, _, hm, zs, hz => by
    subst hm
    unfold lcS
    have : curOf (.fix (ys ++ [])) S ys.length = some none := by
      unfold curOf
      simp
    rw [this]
    simp
  | x :: xs, ys, m, h, hl, hm, zs, hz => by
    subst hm
    have hl : ys.length + (xs.length + 1) < line := hl
    obtain ⟨σ1, h1, h2, h3⟩ := h x List.mem_cons_self
    have ih := fun zs hz => lc_some p f xs (ys ++ [x]) (xs.length + 1) (fun y hy => h y (List.mem_cons_of_mem _ hy)) (by rw [List.length_append]; show ys.length + 1 + xs.length < line; omega) rfl zs hz
    unfold lcS
    have : curOf (.fix (ys ++ x :: xs)) S ys.length = some (some x) := by
      unfold curOf
      simp
    rw [this]
    dsimp only
    rw [h1]
    dsimp only
    rw [h2]
    cases hp : p x with
    | true =>
      dsimp only
      rw [h3 hp]
      show (if zs.length < line then lcS g T E (curOf (.fix (ys ++ x :: xs))) σ (xs.length + 1) (ys.length + 1) (zs ++ [f x]) S else .bad) = _
      rw [if_pos (by omega)]
      rw [show ys ++ x :: xs = ys ++ [x] ++ xs by simp, show ys.length + 1 = (ys ++ [x]).length by simp]
      rw [ih (zs ++ [f x]) (by rw [List.length_append, List.length_append]; show zs.length + 1 ≤ ys.length + 1; omega), List.append_assoc]
      simp [List.filter_cons, hp]
    | false =>
      dsimp only
      rw [show ys ++ x :: xs = ys ++ [x] ++ xs by simp, show ys.length + 1 = (ys ++ [x]).length by simp, show (x :: xs).length = xs.length + 1 from rfl]
      rw [ih zs (by rw [List.length_append]; omega)]
      simp [List.filter_cons, hp]
theorem lc_flt (p : D → Bool) (f : D → D) {xs : List D} (h : ∀ x ∈ xs, ∃ σ1, g x σ = some σ1 ∧ T σ1 S = .ok (p x) S ∧ (p x = true → E σ1 S = .ok (.d (f x)) S)) (hl : xs.length < line) : lcS g T E (curOf (.fix xs)) σ (turnsOf (.fix xs)) 0 [] S = .ok (.own ((xs.filter p).map f)) S := by
  have := lc_some p f xs [] (xs.length + 1) h (by simpa using hl) rfl [] (Nat.le_refl _)
  exact this
/-- a loop over known items: what holds stays -/
theorem for_inv {B : CS} {xs : List D} (P : Env → Store → Prop) : ∀ (ys zs : List D) (m : Nat), xs = ys ++ zs → m = zs.length + 1 → (∀ x ∈ zs, ∀ σ S, P σ S → ∃ σ1, g x σ = some σ1 ∧ ∃ σ2 S2, B σ1 S = .nx σ2 S2 ∧ P σ2 S2) →
    ∀ σ S, P σ S → ∃ σ' S', forS g B (curOf (.fix xs)) m ys.length σ S = .nx σ' S' ∧ P σ' S'
  | ys, [], m, hx, hm, h, σ, S, hp => by
    subst hm hx
    refine ⟨σ, S, ?_, hp⟩
    unfold forS
    have : curOf (.fix (ys ++ [])) S ys.length = some none := by
      unfold curOf
      simp
    rw [this]
  | ys, z :: zs, m, hx, hm, h, σ, S, hp => by
    subst hm
    obtain ⟨σ1, h1, σ2, S2, h2, h3⟩ := h z List.mem_cons_self σ S hp
    obtain ⟨σ', S', h4, h5⟩ := for_inv (xs := xs) P (ys ++ [z]) zs (zs.length + 1) (by rw [hx]; simp) rfl (fun x hx => h x (List.mem_cons_of_mem _ hx)) σ2 S2 h3
    refine ⟨σ', S', ?_, h5⟩
    unfold forS
    have : curOf (.fix xs) S ys.length = some (some z) := by
      subst hx
      unfold curOf
      simp
    rw [this]
    dsimp only
    rw [h1]
    dsimp only
    rw [h2]
    rw [show (ys ++ [z]).length = ys.length + 1 by simp] at h4
    exact h4
end
section
variable {st : CS} {r : List CS} {σ σ' : Env} {S S' : Store} {e : CE} {v : RV} {t : CT} {x y : CS} {i : Nat} {b : Bool}
theorem bk_nx (h : st σ S = .nx σ' S') : sBk (st :: r) σ S = sBk r σ' S' := by
  show (match st σ S with | .nx σ' S' => sBk r σ' S' | o => o) = _
  rw [h]
theorem bk_rt (h : st σ S = .rt v S') : sBk (st :: r) σ S = .rt v S' := by
  show (match st σ S with | .nx σ' S' => sBk r σ' S' | o => o) = _
  rw [h]
theorem bk_exc {n : Nat} {fs : List D} (h : st σ S = .exc n fs σ' S') : sBk (st :: r) σ S = .exc n fs σ' S' := by
  show (match st σ S with | .nx σ' S' => sBk r σ' S' | o => o) = _
  rw [h]
theorem st_ok (h : e σ S = .ok v S') : sSt i false e σ S = .nx (σ.set i (some v.toW)) S' := by
  unfold sSt
  rw [h]
  cases v <;> rfl
theorem rt_ok (h : e σ S = .ok v S') : sRt e σ S = .rt v S' := by
  unfold sRt
  rw [h]
  rfl
theorem if_ok (h : t σ S = .ok b S') : sIf t x y σ S = if b = true then x σ S' else y σ S' := by
  unfold sIf
  rw [h]
  rfl
theorem if_yes (h : t σ S = .ok true S') : sIf t x y σ S = x σ S' := by rw [if_ok h]; rfl
theorem if_no (h : t σ S = .ok false S') : sIf t x y σ S = y σ S' := by rw [if_ok h]; rfl
theorem if_skip (h : t σ S = .ok false S') : sIf t x (sBk []) σ S = .nx σ S' := by rw [if_no h]; rfl
theorem ix_ok {o i' : CE} {w ov iv : RV} {S1 S2 S3 S4 : Store} (h1 : e σ S = .ok w S1) (h2 : o σ S1 = .ok ov S2) (h3 : i' σ S2 = .ok iv S3) (h4 : setI iv w.toW ov S3 = some S4) : sIx o i' e σ S = .nx σ S4 := by
  unfold sIx
  rw [h1, lift_ok, h2, lift_ok, h3, lift_ok, h4]
theorem and_t {e e' : CE} {es : List CE} {S1 : Store} (h : e σ S = .ok v S1) (ht : truO S1 v = some true) : cBl .And (e :: e' :: es) σ S = cBl .And (e' :: es) σ S1 := by
  show ((e σ S).bind _) = _
  rw [h, bind_ok, ht]
theorem and_f {e e' : CE} {es : List CE} {S1 : Store} (h : e σ S = .ok v S1) (ht : truO S1 v = some false) : cBl .And (e :: e' :: es) σ S = .ok v S1 := by
  show ((e σ S).bind _) = _
  rw [h, bind_ok, ht]
theorem or_t {e e' : CE} {es : List CE} {S1 : Store} (h : e σ S = .ok v S1) (ht : truO S1 v = some true) : cBl .Or (e :: e' :: es) σ S = .ok v S1 := by
  show ((e σ S).bind _) = _
  rw [h, bind_ok, ht]
theorem or_f {e e' : CE} {es : List CE} {S1 : Store} (h : e σ S = .ok v S1) (ht : truO S1 v = some false) : cBl .Or (e :: e' :: es) σ S = cBl .Or (e' :: es) σ S1 := by
  show ((e σ S).bind _) = _
  rw [h, bind_ok, ht]
theorem bl_one {op : BoolOp} {e : CE} : cBl op [e] σ S = e σ S := rfl
theorem tE_ok {S1 : Store} {k : Bool} (h : e σ S = .ok v S1) (ht : truO S1 v = some k) : tE_ e σ S = .ok k S1 := by
  unfold tE_
  rw [h, bind_ok, ht]
theorem tC_ok {S1 : Store} {k : Bool} (h : e σ S = .ok (.d (.bl k)) S1) : tC_ e σ S = .ok k S1 := by
  unfold tC_
  rw [h]
  rfl
theorem tN_ok {S1 : Store} {k : Bool} (h : t σ S = .ok k S1) : tNt t σ S = .ok (!k) S1 := by
  unfold tNt
  rw [h]
  rfl
theorem cmp_ok {op : CmpOp} {a b' : CE} {u : RV} {S1 S2 : Store} {k : Bool} (h1 : a σ S = .ok v S1) (h2 : b' σ S1 = .ok u S2) (hc : cmpO op S2 v u = some k) : cCmp op a b' σ S = .ok (.d (.bl k)) S2 := by
  unfold cCmp cmpF
  rw [h1, bind_ok, h2, bind_ok, hc]
  rfl
theorem sub_ok {a i' : CE} {u w : RV} {S1 S2 : Store} (h1 : a σ S = .ok v S1) (h2 : i' σ S1 = .ok u S2) (hc : subRV S2 v u = some w) : cSub a i' σ S = .ok w S2 := by
  unfold cSub
  rw [h1, bind_ok, h2, bind_ok, hc]
  rfl
theorem ife_ok {a b' : CE} {S1 : Store} {k : Bool} (h : t σ S = .ok k S1) : cIf t a b' σ S = if k = true then a σ S1 else b' σ S1 := by
  unfold cIf
  rw [h]
  rfl
theorem bi_ok {o : List D → Option RV} {a : CE} {S1 : Store} {d : D} {w : RV} (h1 : a σ S = .ok v S1) (h2 : view S1 v = some d) (h3 : view S1 (.w v.toW) = some d) (hc : o [d] = some w) : cBi o [.p a] σ S = .ok w S1 := by
  show ((a σ S).bind fun v S1 => (Out.ok [] S1).bind fun ws S2 => Out.ok (v.toW :: ws) S2).bind (biO o) = _
  rw [h1]
  show opt ((views S1 [v.toW]).bind o) S1 = _
  have : views S1 [v.toW] = some [d] := by
    unfold views
    rw [h3]
    rfl
  rw [this]
  show opt (o [d]) S1 = _
  rw [hc]
  rfl
theorem lc_ok {it : Env → Store → Out Src} {tg : CG} {T : CT} {E : CE} {wp : List Nat} {xs : List D} {S1 : Store} (f : D → D) (hi : it σ S = .ok (.fix xs) S1) (h : ∀ x ∈ xs, ∃ σ1, tg.go x (wipeE σ wp) = some σ1 ∧ T σ1 S1 = .ok true S1 ∧ E σ1 S1 = .ok (.d (f x)) S1) (hl : xs.length < line) :
    cLc it tg T E wp σ S = .ok (.own (xs.map f)) S1 := by
  unfold cLc
  rw [hi]
  exact lc_map f h hl
theorem lcf_ok {it : Env → Store → Out Src} {tg : CG} {T : CT} {E : CE} {wp : List Nat} {xs : List D} {S1 : Store} (p : D → Bool) (f : D → D) (hi : it σ S = .ok (.fix xs) S1) (h : ∀ x ∈ xs, ∃ σ1, tg.go x (wipeE σ wp) = some σ1 ∧ T σ1 S1 = .ok (p x) S1 ∧ (p x = true → E σ1 S1 = .ok (.d (f x)) S1)) (hl : xs.length < line) :
    cLc it tg T E wp σ S = .ok (.own ((xs.filter p).map f)) S1 := by
  unfold cLc
  rw [hi]
  exact lc_flt p f h hl
end
end Ev
set_option linter.all false
set_option maxHeartbeats 2000000
namespace Ev
open PySem

/-! ## draws: a law's source of numbers, evaluated -/
def intsW (cells : List Int) : List W := cells.map fun i => .d (.int i)
def intsL (cells : List Int) : List D := cells.map fun i => .int i
def stH (st idx : Int) (cells : List Int) : Store := [.lst [.d (.int st), .ref 1, .d (.int idx)], .lst (intsW cells)]
theorem toDs_ints : ∀ cells : List Int, toDs (intsW cells) = some (intsL cells)
  | [] => rfl
  | i :: r => by
    have ih := toDs_ints r
    show toDs (.d (.int i) :: intsW r) = _
    unfold toDs
    dsimp only [W.toD]
    rw [ih]
    rfl
theorem view1 {st idx : Int} {cells : List Int} : view (stH st idx cells) (.w (.ref 1)) = some (.lst (intsL cells)) := by
  show (toDs (intsW cells)).map D.lst = _
  rw [toDs_ints]
  rfl
theorem ixN_in {n : Nat} {i : Int} (h0 : 0 ≤ i) (h1 : i < n) : L2.ixN n i = some i.toNat := by
  unfold L2.ixN
  rw [if_pos h0, if_pos h1]
theorem atI_in {α : Type} {xs : List α} {i : Int} (h0 : 0 ≤ i) (h1 : i < xs.length) : ∃ x, xs[i.toNat]? = some x ∧ L2.atI xs i = some x := by
  have hl : i.toNat < xs.length := by omega
  refine ⟨xs[i.toNat], List.getElem?_eq_getElem hl, ?_⟩
  unfold L2.atI
  rw [ixN_in h0 h1]
  exact List.getElem?_eq_getElem hl
/-- _law_next -/
def rNext : CS := sBk [sSt 2 false (cSub (cBin .Add (cSub (cV 0) (cK (.int 1))) (cLst [.p (cK (.int 0))])) (cBin .Mod (cBi oInt [.p (cSub (cV 0) (cK (.int 2)))]) (cBi oMax [.p (cK (.int 1)), .p (cBi oLen [.p (cSub (cV 0) (cK (.int 1)))])]))),
  sIf (tC_ (cCmp .GtE (cV 2) (cBin .Pow (cK (.int 10)) (cK (.int 18))))) (sBk [sIx (cSub (cV 0) (cK (.int 1))) (cBin .Mod (cBi oInt [.p (cSub (cV 0) (cK (.int 2)))]) (cBi oLen [.p (cSub (cV 0) (cK (.int 1)))])) (cBin .FloorDiv (cV 2) (cV 1)),
  sRt (cBin .Mod (cBi oInt [.p (cV 2)]) (cV 1))]) (sBk []),
  sIx (cV 0) (cK (.int 0)) (cBin .Mod (cBi oInt [.p (cBin .Add (cBin .Add (cBin .Mult (cSub (cV 0) (cK (.int 0))) (cK (.int 48271))) (cBin .Mult (cV 2) (cK (.int 69621)))) (cK (.int 11)))]) (cK (.int 2147483647))),
  sIx (cV 0) (cK (.int 2)) (cBin .Add (cSub (cV 0) (cK (.int 2))) (cK (.int 1))),
  sRt (cBin .Mod (cBi oInt [.p (cBin .FloorDiv (cSub (cV 0) (cK (.int 0))) (cK (.int 7)))]) (cV 1))]
section
variable {st idx cap : Int} {cells : List Int} {u : Option W}
theorem nx_h1 : cSub (cV 0) (cK (.int 1)) [some (.ref 0), some (.d (.int cap)), u] (stH st idx cells) = .ok (.w (.ref 1)) (stH st idx cells) := rfl
theorem nx_h0 : cSub (cV 0) (cK (.int 0)) [some (.ref 0), some (.d (.int cap)), u] (stH st idx cells) = .ok (.d (.int st)) (stH st idx cells) := rfl
theorem nx_h2 : cSub (cV 0) (cK (.int 2)) [some (.ref 0), some (.d (.int cap)), u] (stH st idx cells) = .ok (.d (.int idx)) (stH st idx cells) := rfl
theorem nx_len : cBi oLen [.p (cSub (cV 0) (cK (.int 1)))] [some (.ref 0), some (.d (.int cap)), u] (stH st idx cells) = .ok (.d (.int cells.length)) (stH st idx cells) := by
  show biO oLen [.ref 1] (stH st idx cells) = _
  have e : views (stH st idx cells) [.ref 1] = some [.lst (intsL cells)] := by
    unfold views
    rw [view1]
    rfl
  unfold biO
  rw [e]
  show opt (some (RV.d (.int ((intsL cells).length : Int)))) _ = _
  rw [show (intsL cells).length = cells.length from List.length_map ..]
  rfl
theorem nx_mod {j : Int} (hj : 0 < j) {f : CE} {σ : Env} {S : Store} (hf : f σ S = .ok (.d (.int j)) S) {g : CE} {i : Int} (hg : g σ S = .ok (.d (.int i)) S) : cBin .Mod g f σ S = .ok (.d (.int (i % j))) S := by
  unfold cBin
  rw [hg]
  show (f σ S).bind _ = _
  rw [hf]
  show opt (if 0 < j then some (RV.d (.int (i % j))) else none) S = _
  rw [if_pos hj]
  rfl
theorem nx_int {f : CE} {σ : Env} {S : Store} {i : Int} (hf : f σ S = .ok (.d (.int i)) S) : cBi oInt [.p f] σ S = .ok (.d (.int i)) S := by
  unfold cBi cA
  rw [hf]
  rfl
theorem nx_max {f : CE} {σ : Env} {S : Store} {i : Int} (hf : f σ S = .ok (.d (.int i)) S) : cBi oMax [.p (cK (.int 1)), .p f] σ S = .ok (.d (.int (if i > 1 then i else 1))) S := by
  show ((cA [.p (cK (.int 1)), .p f] σ S).bind (biO oMax)) = _
  have e : cA [.p (cK (.int 1)), .p f] σ S = .ok [.d (.int 1), .d (.int i)] S := by
    show ((f σ S).bind fun v S1 => _).bind _ = _
    rw [hf]
    rfl
  rw [e]
  rfl
theorem nx_cell (hl : cells.length ≤ 63) : ∃ c : Int, (cells = [] → c = 0) ∧ cSub (cBin .Add (cSub (cV 0) (cK (.int 1))) (cLst [.p (cK (.int 0))])) (cBin .Mod (cBi oInt [.p (cSub (cV 0) (cK (.int 2)))]) (cBi oMax [.p (cK (.int 1)), .p (cBi oLen [.p (cSub (cV 0) (cK (.int 1)))])])) [some (.ref 0), some (.d (.int cap)), u] (stH st idx cells) = .ok (.d (.int c)) (stH st idx cells) := by
  have e1 : cBin .Add (cSub (cV 0) (cK (.int 1))) (cLst [.p (cK (.int 0))]) [some (.ref 0), some (.d (.int cap)), u] (stH st idx cells) = .ok (.own (intsL cells ++ [.int 0])) (stH st idx cells) := by
    unfold cBin
    rw [nx_h1]
    show (match view (stH st idx cells) (.w (.ref 1)), some (D.lst [.int 0]) with
      | some x, some y => opt (binD .Add x y) (stH st idx cells)
      | _, _ => .bad) = _
    rw [view1]
    show opt (if (intsL cells).length + 1 ≤ line then some (RV.own (intsL cells ++ [.int 0])) else none) _ = _
    have : (intsL cells).length = cells.length := List.length_map ..
    rw [if_pos (by rw [this]; unfold line; omega)]
    rfl
  have e2 := nx_mod (j := if (cells.length : Int) > 1 then (cells.length : Int) else 1) (by split <;> omega) (nx_max (nx_len (st := st) (idx := idx) (cap := cap) (cells := cells) (u := u))) (nx_int (nx_h2 (st := st) (idx := idx) (cap := cap) (cells := cells) (u := u)))
  generalize hM : (if (cells.length : Int) > 1 then (cells.length : Int) else 1) = M at e2
  have hM0 : 0 < M := by rw [← hM]; split <;> omega
  have hM1 : M ≤ (cells.length : Int) + 1 := by rw [← hM]; split <;> omega
  have hlen : (intsL cells ++ [D.int 0]).length = cells.length + 1 := by
    rw [List.length_append]
    show (cells.map _).length + 1 = _
    rw [List.length_map]
  obtain ⟨x, hx1, hx2⟩ := atI_in (xs := intsL cells ++ [.int 0]) (i := idx % M) (Int.emod_nonneg _ (by omega)) (by rw [hlen]; have := Int.emod_lt_of_pos idx hM0; omega)
  have hmem := List.mem_of_getElem? hx1
  have hxi : ∃ c : Int, x = .int c := by
    rcases List.mem_append.mp hmem with h | h
    · obtain ⟨i, _, e⟩ := List.mem_map.mp h
      exact ⟨i, e.symm⟩
    · exact ⟨0, by simpa using h⟩
  obtain ⟨c, rfl⟩ := hxi
  refine ⟨c, fun h => ?_, ?_⟩
  · subst h
    simp [intsL] at hmem
    exact hmem
  · show ((cBin .Add (cSub (cV 0) (cK (.int 1))) (cLst [.p (cK (.int 0))]) [some (.ref 0), some (.d (.int cap)), u] (stH st idx cells)).bind fun v S1 => (cBin .Mod (cBi oInt [.p (cSub (cV 0) (cK (.int 2)))]) (cBi oMax [.p (cK (.int 1)), .p (cBi oLen [.p (cSub (cV 0) (cK (.int 1)))])]) [some (.ref 0), some (.d (.int cap)), u] S1).bind fun w S2 => opt (subRV S2 v w) S2) = _
    rw [e1, bind_ok, e2, bind_ok]
    show opt ((L2.atI (intsL cells ++ [.int 0]) (idx % M)).map RV.d) _ = _
    rw [hx2]
    rfl
theorem ints_set (j : Nat) (c : Int) : (intsW cells).set j (.d (.int c)) = intsW (cells.set j c) := by
  unfold intsW
  rw [List.map_set]
/-- a draw below cap -/
theorem next_ok (h0 : 0 < cap) (h1 : cap < 1073741824) (hl : cells.length ≤ 63) : ∃ (r st' idx' : Int) (cells' : List Int), 0 ≤ r ∧ r < cap ∧ cells'.length ≤ 63 ∧ outI (rNext [some (.ref 0), some (.d (.int cap)), none] (stH st idx cells)) = .ok (.d (.int r)) (stH st' idx' cells') := by
  obtain ⟨c, hc0, hc⟩ := nx_cell (st := st) (idx := idx) (cap := cap) (cells := cells) (u := none) hl
  have hdv : bDv cap = true := by
    unfold bDv
    rw [decide_eq_true h0, decide_eq_true h1]
    rfl
  by_cases hb : (1000000000000000000 : Int) ≤ c
  · have hne : cells ≠ [] := fun h => by
      have := hc0 h
      omega
    have hpos : 0 < (cells.length : Int) := by
      have : cells.length ≠ 0 := fun h => hne (List.length_eq_zero_iff.mp h)
      omega
    have e2 := nx_mod hpos (nx_len (st := st) (idx := idx) (cap := cap) (cells := cells) (u := some (.d (.int c)))) (nx_int (nx_h2 (st := st) (idx := idx) (cap := cap) (cells := cells) (u := some (.d (.int c)))))
    have hi := ixN_in (n := (intsW cells).length) (i := idx % (cells.length : Int)) (Int.emod_nonneg _ (by omega)) (by rw [show (intsW cells).length = cells.length from List.length_map ..]; exact Int.emod_lt_of_pos _ hpos)
    refine ⟨c % cap, st, idx, cells.set (idx % (cells.length : Int)).toNat (c / cap), Int.emod_nonneg _ (by omega), Int.emod_lt_of_pos _ h0, by rw [List.length_set]; exact hl, ?_⟩
    have s1 : sIx (cSub (cV 0) (cK (.int 1))) (cBin .Mod (cBi oInt [.p (cSub (cV 0) (cK (.int 2)))]) (cBi oLen [.p (cSub (cV 0) (cK (.int 1)))])) (cBin .FloorDiv (cV 2) (cV 1)) [some (.ref 0), some (.d (.int cap)), some (.d (.int c))] (stH st idx cells) = .nx [some (.ref 0), some (.d (.int cap)), some (.d (.int c))] (stH st idx (cells.set (idx % (cells.length : Int)).toNat (c / cap))) := by
      have ev : cBin .FloorDiv (cV 2) (cV 1) [some (.ref 0), some (.d (.int cap)), some (.d (.int c))] (stH st idx cells) = .ok (.d (.int (c / cap))) (stH st idx cells) := by
        show opt (if bDv cap = true then some (RV.d (.int (c / cap))) else none) _ = _
        rw [hdv]
        rfl
      refine ix_ok ev nx_h1 e2 ?_
      show (match L2.ixN (intsW cells).length (idx % (cells.length : Int)) with
          | some j => some ((stH st idx cells).set 1 (.lst ((intsW cells).set j (.d (.int (c / cap))))))
          | none => none) = _
      rw [hi]
      show some [_, Cell.lst ((intsW cells).set _ _)] = _
      rw [ints_set]
      rfl
    have t : tC_ (cCmp .GtE (cV 2) (cBin .Pow (cK (.int 10)) (cK (.int 18)))) [some (.ref 0), some (.d (.int cap)), some (.d (.int c))] (stH st idx cells) = .ok true (stH st idx cells) := by
      show Out.ok (decide ((1000000000000000000 : Int) ≤ c)) _ = _
      rw [decide_eq_true hb]
    have e5 : cBin .Mod (cBi oInt [.p (cV 2)]) (cV 1) [some (.ref 0), some (.d (.int cap)), some (.d (.int c))] (stH st idx (cells.set (idx % (cells.length : Int)).toNat (c / cap))) = .ok (.d (.int (c % cap))) (stH st idx (cells.set (idx % (cells.length : Int)).toNat (c / cap))) := nx_mod h0 rfl (nx_int rfl)
    unfold rNext
    rw [bk_nx (st_ok hc)]
    show outI (sBk _ [some (.ref 0), some (.d (.int cap)), some (.d (.int c))] (stH st idx cells)) = _
    rw [bk_rt ((if_yes t).trans ((bk_nx s1).trans (bk_rt (rt_ok e5))))]
    rfl
  · have t : tC_ (cCmp .GtE (cV 2) (cBin .Pow (cK (.int 10)) (cK (.int 18)))) [some (.ref 0), some (.d (.int cap)), some (.d (.int c))] (stH st idx cells) = .ok false (stH st idx cells) := by
      show Out.ok (decide ((1000000000000000000 : Int) ≤ c)) _ = _
      rw [decide_eq_false hb]
    refine ⟨((st * 48271 + c * 69621 + 11) % 2147483647 / 7) % cap, (st * 48271 + c * 69621 + 11) % 2147483647, idx + 1, cells, Int.emod_nonneg _ (by omega), Int.emod_lt_of_pos _ h0, hl, ?_⟩
    unfold rNext
    rw [bk_nx (st_ok hc)]
    show outI (sBk _ [some (.ref 0), some (.d (.int cap)), some (.d (.int c))] (stH st idx cells)) = _
    rw [bk_nx (if_skip t)]
    generalize hs' : (st * 48271 + c * 69621 + 11) % 2147483647 = st'
    have m1 : bMul st 48271 = true := by
      unfold bMul
      simp
    have m2 : bMul c 69621 = true := by
      unfold bMul
      simp
    have a1 : cBin .Mult (cSub (cV 0) (cK (.int 0))) (cK (.int 48271)) [some (.ref 0), some (.d (.int cap)), some (.d (.int c))] (stH st idx cells) = .ok (.d (.int (st * 48271))) (stH st idx cells) := by
      show opt (if bMul st 48271 = true then some (RV.d (.int (st * 48271))) else none) _ = _
      rw [if_pos m1]
      rfl
    have a2 : cBin .Mult (cV 2) (cK (.int 69621)) [some (.ref 0), some (.d (.int cap)), some (.d (.int c))] (stH st idx cells) = .ok (.d (.int (c * 69621))) (stH st idx cells) := by
      show opt (if bMul c 69621 = true then some (RV.d (.int (c * 69621))) else none) _ = _
      rw [if_pos m2]
      rfl
    have a3 : cBin .Add (cBin .Add (cBin .Mult (cSub (cV 0) (cK (.int 0))) (cK (.int 48271))) (cBin .Mult (cV 2) (cK (.int 69621)))) (cK (.int 11)) [some (.ref 0), some (.d (.int cap)), some (.d (.int c))] (stH st idx cells) = .ok (.d (.int (st * 48271 + c * 69621 + 11))) (stH st idx cells) := by
      show ((cBin .Mult (cSub (cV 0) (cK (.int 0))) (cK (.int 48271)) [some (.ref 0), some (.d (.int cap)), some (.d (.int c))] (stH st idx cells)).bind fun v S1 => (cBin .Mult (cV 2) (cK (.int 69621)) [some (.ref 0), some (.d (.int cap)), some (.d (.int c))] S1).bind _).bind _ = _
      rw [a1, bind_ok, a2]
      rfl
    have a4 := nx_mod (j := 2147483647) (by decide) (f := cK (.int 2147483647)) rfl (nx_int a3)
    rw [hs'] at a4
    rw [bk_nx (ix_ok (S4 := stH st' idx cells) a4 rfl rfl rfl)]
    have a5 : cBin .Add (cSub (cV 0) (cK (.int 2))) (cK (.int 1)) [some (.ref 0), some (.d (.int cap)), some (.d (.int c))] (stH st' idx cells) = .ok (.d (.int (idx + 1))) (stH st' idx cells) := rfl
    rw [bk_nx (ix_ok (S4 := stH st' (idx + 1) cells) a5 rfl rfl rfl)]
    have a6 : cBin .FloorDiv (cSub (cV 0) (cK (.int 0))) (cK (.int 7)) [some (.ref 0), some (.d (.int cap)), some (.d (.int c))] (stH st' (idx + 1) cells) = .ok (.d (.int (st' / 7))) (stH st' (idx + 1) cells) := rfl
    rw [bk_rt (rt_ok (nx_mod h0 (f := cV 1) rfl (nx_int a6)))]
    rfl
end
end Ev
namespace Ev
open PySem
/-- such a store -/
def IsH (S : Store) : Prop := ∃ (st idx : Int) (cells : List Int), cells.length ≤ 63 ∧ S = stH st idx cells
theorem toDs_map : ∀ ds : List D, toDs (ds.map W.d) = some ds
  | [] => rfl
  | d :: ds => by
    show toDs (.d d :: ds.map W.d) = _
    unfold toDs
    dsimp only [W.toD]
    rw [toDs_map ds]
theorem pick_ok {es : List CA} {ds : List D} {dr : CE} {r : Int} {S S' : Store} {σ : Env} (ha : cA es σ S = .ok (ds.map W.d) S) (hd : dr σ S = .ok (.d (.int r)) S') (h0 : 0 ≤ r) (h1 : r < ds.length) (hl : ds.length ≤ line) : ∃ d ∈ ds, cSub (cLst es) dr σ S = .ok (.d d) S' := by
  obtain ⟨x, hx1, hx2⟩ := atI_in h0 h1
  refine ⟨x, List.mem_of_getElem? hx1, ?_⟩
  have e1 : cLst es σ S = .ok (.own ds) S := by
    unfold cLst
    rw [ha, bind_ok]
    unfold mkLst
    rw [toDs_map]
    dsimp only
    rw [if_pos hl]
  refine sub_ok e1 hd ?_
  show ((L2.atI ds r).map RV.d) = _
  rw [hx2]
  rfl
end Ev
set_option linter.all false
set_option maxRecDepth 100000
set_option maxHeartbeats 4000000
namespace Ev.K03
open PySem
def top (i : Nat) : Stmt := PySem.Challenge.pw_answerparts_k03_worlds.main.body.getD i (.Pass ⟨0, 0, 0, 0⟩)
def cst (st : Stmt) (j : Nat) : Stmt := match st with
  | .ClassDef _ _ _ b _ _ _ _ _ _ _ => b.getD j (.Pass ⟨0, 0, 0, 0⟩)
  | _ => .Pass ⟨0, 0, 0, 0⟩
/-- is_from -/
def d0 : DE := { at_ := .g "is_from", name := "is_from", qual := "is_from", st := top 5, N := ["thing", "low", "high"], ps := ["thing", "low", "high"], cells := [], dfl := [], kwd := [], kwo := false }
/-- is_number -/
def d1 : DE := { at_ := .g "is_number", name := "is_number", qual := "is_number", st := top 9, N := ["thing"], ps := ["thing"], cells := [], dfl := [], kwd := [], kwo := false }
/-- is_most -/
def d2 : DE := { at_ := .g "is_most", name := "is_most", qual := "is_most", st := top 10, N := ["one", "other"], ps := ["one", "other"], cells := [], dfl := [], kwd := [], kwo := false }
/-- greater -/
def d3 : DE := { at_ := .g "greater", name := "greater", qual := "greater", st := top 11, N := ["one", "other"], ps := ["one", "other"], cells := [], dfl := [], kwd := [], kwo := false }
/-- World.__init__ -/
def d4 : DE := { at_ := .m "World" "__init__", name := "__init__", qual := "World.__init__", st := cst (top 12) 0, N := ["self", "mode", "lost", "breaks", "fails", "late", "number"], ps := ["self", "mode", "lost", "breaks", "fails", "late"], cells := [], dfl := [.str "each"], kwd := [("lost", .int 0), ("breaks", .int 0), ("fails", .non), ("late", .bl false)], kwo := true }
/-- World.mode -/
def d5 : DE := { at_ := .p "World" "mode", name := "mode", qual := "World.mode", st := cst (top 12) 1, N := ["self"], ps := ["self"], cells := [], dfl := [], kwd := [], kwo := false }
/-- World.lost -/
def d6 : DE := { at_ := .p "World" "lost", name := "lost", qual := "World.lost", st := cst (top 12) 2, N := ["self"], ps := ["self"], cells := [], dfl := [], kwd := [], kwo := false }
/-- World.breaks -/
def d7 : DE := { at_ := .p "World" "breaks", name := "breaks", qual := "World.breaks", st := cst (top 12) 3, N := ["self"], ps := ["self"], cells := [], dfl := [], kwd := [], kwo := false }
/-- World.fails -/
def d8 : DE := { at_ := .p "World" "fails", name := "fails", qual := "World.fails", st := cst (top 12) 4, N := ["self"], ps := ["self"], cells := [], dfl := [], kwd := [], kwo := false }
/-- World.late -/
def d9 : DE := { at_ := .p "World" "late", name := "late", qual := "World.late", st := cst (top 12) 5, N := ["self"], ps := ["self"], cells := [], dfl := [], kwd := [], kwo := false }
/-- World.parts -/
def d10 : DE := { at_ := .m "World" "parts", name := "parts", qual := "World.parts", st := cst (top 12) 6, N := ["self"], ps := ["self"], cells := [], dfl := [], kwd := [], kwo := false }
/-- World.__eq__ -/
def d11 : DE := { at_ := .m "World" "__eq__", name := "__eq__", qual := "World.__eq__", st := cst (top 12) 7, N := ["self", "other"], ps := ["self", "other"], cells := [], dfl := [], kwd := [], kwo := false }
/-- World.is_milder -/
def d12 : DE := { at_ := .m "World" "is_milder", name := "is_milder", qual := "World.is_milder", st := cst (top 12) 8, N := ["self", "other", "one", "two"], ps := ["self", "other"], cells := [], dfl := [], kwd := [], kwo := false }
/-- World.__or__ -/
def d13 : DE := { at_ := .m "World" "__or__", name := "__or__", qual := "World.__or__", st := cst (top 12) 9, N := ["self", "other", "lost", "breaks", "fails", "one", "two"], ps := ["self", "other"], cells := [], dfl := [], kwd := [], kwo := false }
/-- _law_mix -/
def d14 : DE := { at_ := .g "_law_mix", name := "_law_mix", qual := "_law_mix", st := top 14, N := ["_law_script", "_law_seed", "_law_state", "_law_cell"], ps := ["_law_script", "_law_seed"], cells := [], dfl := [], kwd := [], kwo := false }
/-- _law_next -/
def d15 : DE := { at_ := .g "_law_next", name := "_law_next", qual := "_law_next", st := top 15, N := ["_law_h", "_law_cap", "_law_cell"], ps := ["_law_h", "_law_cap"], cells := ["_law_h"], dfl := [], kwd := [], kwo := false }
/-- _law_alike -/
def d16 : DE := { at_ := .g "_law_alike", name := "_law_alike", qual := "_law_alike", st := top 16, N := ["_law_found", "_law_due", "_law_k"], ps := ["_law_found", "_law_due"], cells := [], dfl := [], kwd := [], kwo := false }
/-- _law_world -/
def d17 : DE := { at_ := .g "_law_world", name := "_law_world", qual := "_law_world", st := top 17, N := ["_law_h", "_law_stops", "_law_answers", "_law_failures"], ps := ["_law_h"], cells := [], dfl := [], kwd := [], kwo := false }
/-- _law_made -/
def d18 : DE := { at_ := .g "_law_made", name := "_law_made", qual := "_law_made", st := top 18, N := ["_law_world_here"], ps := ["_law_world_here"], cells := [], dfl := [], kwd := [], kwo := false }
/-- _law_number -/
def d19 : DE := { at_ := .g "_law_number", name := "_law_number", qual := "_law_number", st := top 19, N := ["_law_number_here"], ps := ["_law_number_here"], cells := [], dfl := [], kwd := [], kwo := false }
/-- _law_refused -/
def d20 : DE := { at_ := .g "_law_refused", name := "_law_refused", qual := "_law_refused", st := top 20, N := ["_law_mode", "_law_number_here", "_law_slow", "_law_place", "_law_numbers", "_law_shown", "error"], ps := ["_law_mode", "_law_number_here", "_law_slow", "_law_place"], cells := ["_law_numbers"], dfl := [], kwd := [], kwo := false }
/-- _law_joined -/
def d21 : DE := { at_ := .g "_law_joined", name := "_law_joined", qual := "_law_joined", st := top 21, N := ["_law_one", "_law_other", "_law_shown"], ps := ["_law_one", "_law_other"], cells := [], dfl := [], kwd := [], kwo := false }
/-- law -/
def d22 : DE := { at_ := .g "law", name := "law", qual := "law", st := top 22, N := ["_law_script", "_law_h", "_law_turn", "_law_odd", "_law_base", "_law_pairs", "_law_milder", "_law_both", "_law_place", "_law_number_here", "_law_one", "_law_other", "_law_a", "_law_b", "_law_great", "_law_due", "_law_mode", "_law_k", "_law_slow", "_law_pair"], ps := ["_law_script"], cells := [], dfl := [], kwd := [], kwo := false }
/-- World -/
def c0 : ClsI := { frozen := true, init := 4, flds := ["own_mode", "numbers", "is_late"], meths := [("__init__", 4), ("parts", 10), ("__eq__", 11), ("is_milder", 12), ("__or__", 13)], props := [("mode", 5), ("lost", 6), ("breaks", 7), ("fails", 8), ("late", 9)] }
def names : List (Str × GV) := [("AnswerError", .exc 0), ("InvalidWorld", .exc 1), ("WorldError", .exc 2), ("is_from", .fn 0), ("MAX_NUMBER", .val (.int 3)), ("MODES", .val (.ktup [.str "each", .str "whole"])), ("is_number", .fn 1), ("is_most", .fn 2), ("greater", .fn 3), ("World", .cls 0), ("_law_mix", .fn 14), ("_law_next", .fn 15), ("_law_alike", .fn 16), ("_law_world", .fn 17), ("_law_made", .fn 18), ("_law_number", .fn 19), ("_law_refused", .fn 20), ("_law_joined", .fn 21), ("law", .fn 22), ("__doc__", .exc 1000), ("__package__", .exc 1000), ("__loader__", .exc 1000), ("__spec__", .exc 1000), ("__builtins__", .exc 1000), ("__file__", .exc 1000), ("__cached__", .exc 1000), ("__annotations__", .exc 1000), ("__debug__", .exc 1000)]
def es : List DE := [d0, d1, d2, d3, d4, d5, d6, d7, d8, d9, d10, d11, d12, d13, d14, d15, d16, d17, d18, d19, d20, d21, d22]
/-- AnswerError -/
def x0 : EX := { x := "AnswerError", flds := ["?1", "?2"], anc := [0], has := false, qual := "", st := .Pass ⟨0, 0, 0, 0⟩ }
/-- InvalidWorld -/
def x1 : EX := { x := "InvalidWorld", flds := [], anc := [1, 0], has := true, qual := "InvalidWorld.__init__", st := cst (top 2) 0 }
theorem xs1 : ErShape x1 := by
  refine .inl ⟨rfl, _, _, _, _, _, _, _, _, _, ?_, rfl, rfl⟩
  rfl
/-- WorldError -/
def x2 : EX := { x := "WorldError", flds := [], anc := [2, 0], has := true, qual := "WorldError.__init__", st := cst (top 3) 0 }
theorem xs2 : ErShape x2 := by
  refine .inl ⟨rfl, _, _, _, _, _, _, _, _, _, ?_, rfl, rfl⟩
  rfl
def ers : List EX := [x0, x1, x2]
def tx (kps : List KP) : Tx := { names := names, es := es, clss := [("World", c0)], kps := kps, ers := ers, file := PySem.Challenge.pw_answerparts_k03_worlds.main.file }
theorem erOk (kps : List KP) : (tx kps).ErOk := by
  refine ⟨fun e he hh => ?_, fun e he hh => ?_, fun e he hh => ?_, by show names.lookup _ = none; decide +kernel⟩
  · have he : e ∈ ers := he
    simp only [ers, List.mem_cons, List.not_mem_nil, or_false] at he
    rcases he with rfl | rfl | rfl
    · cases hh
    · exact xs1
    · exact xs2
  · have : ∀ e ∈ ers, e.has = false → e.flds.length = 2 := by decide +kernel
    exact this e he hh
  · have : ∀ e ∈ ers, e.has = true → scE (L2.defScope e.st) e.flds = true := by decide +kernel
    exact this e he hh
theorem b0 : d0.dfl = [] ∧ ∀ (kV doc pm : Value) (an : Option Addr) (cdv ct : Value) (us : List Value), us.length = d0.ps.length → PySem.bindArgs (PySem.W.fnOf d0.name d0.qual (L2.defArgs d0.st) (L2.defBody d0.st) (L2.defScope d0.st) .none kV doc pm an cdv ct) ⟨us, []⟩ = pure (d0.ps.zip us) := ⟨rfl, fun _ _ _ _ _ _ us hl => match us, hl with | [_, _, _], _ => rfl⟩
theorem b1 : d1.dfl = [] ∧ ∀ (kV doc pm : Value) (an : Option Addr) (cdv ct : Value) (us : List Value), us.length = d1.ps.length → PySem.bindArgs (PySem.W.fnOf d1.name d1.qual (L2.defArgs d1.st) (L2.defBody d1.st) (L2.defScope d1.st) .none kV doc pm an cdv ct) ⟨us, []⟩ = pure (d1.ps.zip us) := ⟨rfl, fun _ _ _ _ _ _ us hl => match us, hl with | [_], _ => rfl⟩
theorem b2 : d2.dfl = [] ∧ ∀ (kV doc pm : Value) (an : Option Addr) (cdv ct : Value) (us : List Value), us.length = d2.ps.length → PySem.bindArgs (PySem.W.fnOf d2.name d2.qual (L2.defArgs d2.st) (L2.defBody d2.st) (L2.defScope d2.st) .none kV doc pm an cdv ct) ⟨us, []⟩ = pure (d2.ps.zip us) := ⟨rfl, fun _ _ _ _ _ _ us hl => match us, hl with | [_, _], _ => rfl⟩
theorem b3 : d3.dfl = [] ∧ ∀ (kV doc pm : Value) (an : Option Addr) (cdv ct : Value) (us : List Value), us.length = d3.ps.length → PySem.bindArgs (PySem.W.fnOf d3.name d3.qual (L2.defArgs d3.st) (L2.defBody d3.st) (L2.defScope d3.st) .none kV doc pm an cdv ct) ⟨us, []⟩ = pure (d3.ps.zip us) := ⟨rfl, fun _ _ _ _ _ _ us hl => match us, hl with | [_, _], _ => rfl⟩
theorem b5 : d5.dfl = [] ∧ ∀ (kV doc pm : Value) (an : Option Addr) (cdv ct : Value) (us : List Value), us.length = d5.ps.length → PySem.bindArgs (PySem.W.fnOf d5.name d5.qual (L2.defArgs d5.st) (L2.defBody d5.st) (L2.defScope d5.st) .none kV doc pm an cdv ct) ⟨us, []⟩ = pure (d5.ps.zip us) := ⟨rfl, fun _ _ _ _ _ _ us hl => match us, hl with | [_], _ => rfl⟩
theorem b6 : d6.dfl = [] ∧ ∀ (kV doc pm : Value) (an : Option Addr) (cdv ct : Value) (us : List Value), us.length = d6.ps.length → PySem.bindArgs (PySem.W.fnOf d6.name d6.qual (L2.defArgs d6.st) (L2.defBody d6.st) (L2.defScope d6.st) .none kV doc pm an cdv ct) ⟨us, []⟩ = pure (d6.ps.zip us) := ⟨rfl, fun _ _ _ _ _ _ us hl => match us, hl with | [_], _ => rfl⟩
theorem b7 : d7.dfl = [] ∧ ∀ (kV doc pm : Value) (an : Option Addr) (cdv ct : Value) (us : List Value), us.length = d7.ps.length → PySem.bindArgs (PySem.W.fnOf d7.name d7.qual (L2.defArgs d7.st) (L2.defBody d7.st) (L2.defScope d7.st) .none kV doc pm an cdv ct) ⟨us, []⟩ = pure (d7.ps.zip us) := ⟨rfl, fun _ _ _ _ _ _ us hl => match us, hl with | [_], _ => rfl⟩
theorem b8 : d8.dfl = [] ∧ ∀ (kV doc pm : Value) (an : Option Addr) (cdv ct : Value) (us : List Value), us.length = d8.ps.length → PySem.bindArgs (PySem.W.fnOf d8.name d8.qual (L2.defArgs d8.st) (L2.defBody d8.st) (L2.defScope d8.st) .none kV doc pm an cdv ct) ⟨us, []⟩ = pure (d8.ps.zip us) := ⟨rfl, fun _ _ _ _ _ _ us hl => match us, hl with | [_], _ => rfl⟩
theorem b9 : d9.dfl = [] ∧ ∀ (kV doc pm : Value) (an : Option Addr) (cdv ct : Value) (us : List Value), us.length = d9.ps.length → PySem.bindArgs (PySem.W.fnOf d9.name d9.qual (L2.defArgs d9.st) (L2.defBody d9.st) (L2.defScope d9.st) .none kV doc pm an cdv ct) ⟨us, []⟩ = pure (d9.ps.zip us) := ⟨rfl, fun _ _ _ _ _ _ us hl => match us, hl with | [_], _ => rfl⟩
theorem b10 : d10.dfl = [] ∧ ∀ (kV doc pm : Value) (an : Option Addr) (cdv ct : Value) (us : List Value), us.length = d10.ps.length → PySem.bindArgs (PySem.W.fnOf d10.name d10.qual (L2.defArgs d10.st) (L2.defBody d10.st) (L2.defScope d10.st) .none kV doc pm an cdv ct) ⟨us, []⟩ = pure (d10.ps.zip us) := ⟨rfl, fun _ _ _ _ _ _ us hl => match us, hl with | [_], _ => rfl⟩
theorem b11 : d11.dfl = [] ∧ ∀ (kV doc pm : Value) (an : Option Addr) (cdv ct : Value) (us : List Value), us.length = d11.ps.length → PySem.bindArgs (PySem.W.fnOf d11.name d11.qual (L2.defArgs d11.st) (L2.defBody d11.st) (L2.defScope d11.st) .none kV doc pm an cdv ct) ⟨us, []⟩ = pure (d11.ps.zip us) := ⟨rfl, fun _ _ _ _ _ _ us hl => match us, hl with | [_, _], _ => rfl⟩
theorem b12 : d12.dfl = [] ∧ ∀ (kV doc pm : Value) (an : Option Addr) (cdv ct : Value) (us : List Value), us.length = d12.ps.length → PySem.bindArgs (PySem.W.fnOf d12.name d12.qual (L2.defArgs d12.st) (L2.defBody d12.st) (L2.defScope d12.st) .none kV doc pm an cdv ct) ⟨us, []⟩ = pure (d12.ps.zip us) := ⟨rfl, fun _ _ _ _ _ _ us hl => match us, hl with | [_, _], _ => rfl⟩
theorem b13 : d13.dfl = [] ∧ ∀ (kV doc pm : Value) (an : Option Addr) (cdv ct : Value) (us : List Value), us.length = d13.ps.length → PySem.bindArgs (PySem.W.fnOf d13.name d13.qual (L2.defArgs d13.st) (L2.defBody d13.st) (L2.defScope d13.st) .none kV doc pm an cdv ct) ⟨us, []⟩ = pure (d13.ps.zip us) := ⟨rfl, fun _ _ _ _ _ _ us hl => match us, hl with | [_, _], _ => rfl⟩
theorem b14 : d14.dfl = [] ∧ ∀ (kV doc pm : Value) (an : Option Addr) (cdv ct : Value) (us : List Value), us.length = d14.ps.length → PySem.bindArgs (PySem.W.fnOf d14.name d14.qual (L2.defArgs d14.st) (L2.defBody d14.st) (L2.defScope d14.st) .none kV doc pm an cdv ct) ⟨us, []⟩ = pure (d14.ps.zip us) := ⟨rfl, fun _ _ _ _ _ _ us hl => match us, hl with | [_, _], _ => rfl⟩
theorem b15 : d15.dfl = [] ∧ ∀ (kV doc pm : Value) (an : Option Addr) (cdv ct : Value) (us : List Value), us.length = d15.ps.length → PySem.bindArgs (PySem.W.fnOf d15.name d15.qual (L2.defArgs d15.st) (L2.defBody d15.st) (L2.defScope d15.st) .none kV doc pm an cdv ct) ⟨us, []⟩ = pure (d15.ps.zip us) := ⟨rfl, fun _ _ _ _ _ _ us hl => match us, hl with | [_, _], _ => rfl⟩
theorem b16 : d16.dfl = [] ∧ ∀ (kV doc pm : Value) (an : Option Addr) (cdv ct : Value) (us : List Value), us.length = d16.ps.length → PySem.bindArgs (PySem.W.fnOf d16.name d16.qual (L2.defArgs d16.st) (L2.defBody d16.st) (L2.defScope d16.st) .none kV doc pm an cdv ct) ⟨us, []⟩ = pure (d16.ps.zip us) := ⟨rfl, fun _ _ _ _ _ _ us hl => match us, hl with | [_, _], _ => rfl⟩
theorem b17 : d17.dfl = [] ∧ ∀ (kV doc pm : Value) (an : Option Addr) (cdv ct : Value) (us : List Value), us.length = d17.ps.length → PySem.bindArgs (PySem.W.fnOf d17.name d17.qual (L2.defArgs d17.st) (L2.defBody d17.st) (L2.defScope d17.st) .none kV doc pm an cdv ct) ⟨us, []⟩ = pure (d17.ps.zip us) := ⟨rfl, fun _ _ _ _ _ _ us hl => match us, hl with | [_], _ => rfl⟩
theorem b18 : d18.dfl = [] ∧ ∀ (kV doc pm : Value) (an : Option Addr) (cdv ct : Value) (us : List Value), us.length = d18.ps.length → PySem.bindArgs (PySem.W.fnOf d18.name d18.qual (L2.defArgs d18.st) (L2.defBody d18.st) (L2.defScope d18.st) .none kV doc pm an cdv ct) ⟨us, []⟩ = pure (d18.ps.zip us) := ⟨rfl, fun _ _ _ _ _ _ us hl => match us, hl with | [_], _ => rfl⟩
theorem b19 : d19.dfl = [] ∧ ∀ (kV doc pm : Value) (an : Option Addr) (cdv ct : Value) (us : List Value), us.length = d19.ps.length → PySem.bindArgs (PySem.W.fnOf d19.name d19.qual (L2.defArgs d19.st) (L2.defBody d19.st) (L2.defScope d19.st) .none kV doc pm an cdv ct) ⟨us, []⟩ = pure (d19.ps.zip us) := ⟨rfl, fun _ _ _ _ _ _ us hl => match us, hl with | [_], _ => rfl⟩
theorem b20 : d20.dfl = [] ∧ ∀ (kV doc pm : Value) (an : Option Addr) (cdv ct : Value) (us : List Value), us.length = d20.ps.length → PySem.bindArgs (PySem.W.fnOf d20.name d20.qual (L2.defArgs d20.st) (L2.defBody d20.st) (L2.defScope d20.st) .none kV doc pm an cdv ct) ⟨us, []⟩ = pure (d20.ps.zip us) := ⟨rfl, fun _ _ _ _ _ _ us hl => match us, hl with | [_, _, _, _], _ => rfl⟩
theorem b21 : d21.dfl = [] ∧ ∀ (kV doc pm : Value) (an : Option Addr) (cdv ct : Value) (us : List Value), us.length = d21.ps.length → PySem.bindArgs (PySem.W.fnOf d21.name d21.qual (L2.defArgs d21.st) (L2.defBody d21.st) (L2.defScope d21.st) .none kV doc pm an cdv ct) ⟨us, []⟩ = pure (d21.ps.zip us) := ⟨rfl, fun _ _ _ _ _ _ us hl => match us, hl with | [_, _], _ => rfl⟩
theorem b22 : d22.dfl = [] ∧ ∀ (kV doc pm : Value) (an : Option Addr) (cdv ct : Value) (us : List Value), us.length = d22.ps.length → PySem.bindArgs (PySem.W.fnOf d22.name d22.qual (L2.defArgs d22.st) (L2.defBody d22.st) (L2.defScope d22.st) .none kV doc pm an cdv ct) ⟨us, []⟩ = pure (d22.ps.zip us) := ⟨rfl, fun _ _ _ _ _ _ us hl => match us, hl with | [_], _ => rfl⟩
theorem bnd : ∀ d ∈ es, d.kwo = false → d.dfl = [] ∧ ∀ (kV doc pm : Value) (an : Option Addr) (cdv ct : Value) (us : List Value), us.length = d.ps.length → PySem.bindArgs (PySem.W.fnOf d.name d.qual (L2.defArgs d.st) (L2.defBody d.st) (L2.defScope d.st) .none kV doc pm an cdv ct) ⟨us, []⟩ = pure (d.ps.zip us) := by
  intro d hd
  simp only [es, List.mem_cons, List.not_mem_nil, or_false] at hd
  rcases hd with rfl | rfl | rfl | rfl | rfl | rfl | rfl | rfl | rfl | rfl | rfl | rfl | rfl | rfl | rfl | rfl | rfl | rfl | rfl | rfl | rfl | rfl | rfl
  · exact fun _ => b0
  · exact fun _ => b1
  · exact fun _ => b2
  · exact fun _ => b3
  · exact fun h => nomatch h
  · exact fun _ => b5
  · exact fun _ => b6
  · exact fun _ => b7
  · exact fun _ => b8
  · exact fun _ => b9
  · exact fun _ => b10
  · exact fun _ => b11
  · exact fun _ => b12
  · exact fun _ => b13
  · exact fun _ => b14
  · exact fun _ => b15
  · exact fun _ => b16
  · exact fun _ => b17
  · exact fun _ => b18
  · exact fun _ => b19
  · exact fun _ => b20
  · exact fun _ => b21
  · exact fun _ => b22
theorem scs : ∀ d ∈ es, scB d.N d.ps (L2.defScope d.st) = true := by decide +kernel
theorem difs : (((tx []).clss).map (·.1)).Nodup := by decide +kernel
theorem ok (kps : List KP) : (tx kps).Ok := ⟨scs, bnd, difs⟩
end Ev.K03
set_option Elab.async false
set_option linter.all false
set_option maxRecDepth 100000
set_option maxHeartbeats 2000000
namespace Ev
open PySem PySem.Spec PyProof.Rows L2
/-- a flat default as a value -/
def dvV : D → V
  | .int i => .int i | .str s => .str s | .bl b => .bl b | _ => .non
theorem valsApp {vs zs : List V} {us ws : List Value} (r1 : Vals vs us) (r2 : Vals zs ws) : Vals (vs ++ zs) (us ++ ws) := by
  induction r1 with
  | nil => exact r2
  | cons h _ ih => exact .cons h ih
end Ev
namespace Ev.K03
open PySem PySem.Spec PyProof.Rows L2
def kp0 : KP := ⟨0, 1, ["lost", "breaks", "fails", "late"], [.p 0, .k 0, .k 1, .k 2, .k 3]⟩
def kp1 : KP := ⟨0, 0, [], [.d (.str "each"), .d (.int 0), .d (.int 0), .d .non, .d (.bl false)]⟩
def kps : List KP := [kp0, kp1]
abbrev T1 : Tx := tx kps
theorem gk {K : PySem.W.Frag} (c : SaysA (tx kps).B ((tx kps).es.map DE.defA) (tx kps).erA K) : GK ((tx kps).cs K) (tx kps).G kps ((tx kps).fd K) := by
  have F := Tx.fun_ (t := tx kps) c (i := 4) (d := d4) rfl
  intro kp hk ci fi hci hfi
  simp only [kps, List.mem_cons, List.not_mem_nil, or_false] at hk
  rcases hk with rfl | rfl
  · cases hci
    cases hfi
    refine ⟨rfl, ?_⟩
    obtain ⟨its, mv, kb⟩ := FunD.kbinds (ps := d4.ps) F 2 ["lost", "breaks", "fails", "late"] [] (fun us _ _ ws => us ++ ws) (by simp [d4]) (by simp [d4]) (by simp) (fun r1 _ _ r2 => valsApp r1 r2) (fun T D doc pm an cdv ct us its mv ws l1 l2 l3 l4 => by
      match us, l1 with
      | [a, b], _ =>
        match its, l2 with
        | [i], _ =>
          match mv, l3 with
          | [], _ =>
            match ws, l4 with
            | [w1, w2, w3, w4], _ => exact ⟨_, rfl, rfl⟩)
    refine ⟨_, _, dvV, kb, fun x hx => by simp [kp0] at hx, fun v0 vs zs h1 h2 => ?_⟩
    match vs, h1 with
    | [a], _ =>
      match zs, h2 with
      | [w1, w2, w3, w4], _ => exact ⟨_, rfl, rfl⟩
  · cases hci
    cases hfi
    refine ⟨rfl, ?_⟩
    obtain ⟨its, mv, kb⟩ := FunD.kbinds (ps := d4.ps) F 1 [] [("lost", .int 0), ("breaks", .int 0), ("fails", .non), ("late", .bl false)] (fun us ds ms _ => us ++ ds ++ ms) (by simp [d4]) (by simp [d4]) (by simp [d4, He.Dv.v]) (fun r1 r2 r3 _ => valsApp (valsApp r1 r2) r3) (fun T D doc pm an cdv ct us its mv ws l1 l2 l3 l4 => by
      match us, l1 with
      | [a], _ =>
        match its, l2 with
        | [i], _ =>
          match mv, l3 with
          | [m1, m2, m3, m4], _ =>
            match ws, l4 with
            | [], _ => exact ⟨_, rfl, ⟨_, _, _, _, _, _, rfl, rfl, ⟨_, _, _, _, _, _, rfl, rfl, ⟨_, _, _, _, _, _, rfl, rfl, ⟨_, _, _, _, _, _, rfl, rfl, rfl⟩⟩⟩⟩⟩)
    refine ⟨_, _, dvV, kb, fun x hx => ?_, fun v0 vs zs h1 h2 => ?_⟩
    · simp only [kp1, List.mem_cons, Fl.d.injEq, List.not_mem_nil, or_false] at hx
      rcases hx with rfl | rfl | rfl | rfl | rfl
      · exact .str _
      · exact .int _
      · exact .int _
      · exact .non
      · exact .bl _
    · match vs, h1 with
      | [], _ =>
        match zs, h2 with
        | [], _ => exact ⟨_, rfl, rfl⟩
end Ev.K03
set_option linter.all false
set_option maxRecDepth 100000
set_option maxHeartbeats 0
namespace Ev.K03
open PySem
abbrev GG : Gm := (tx kps).G
/-- is_from -/
def r0 (Rc : Rec) : CS := sBk [sRt (cBl .And [cIs GG (.b "int") (cV 0), cNot (cIs GG (.b "bool") (cV 0)), cCh .LtE .LtE (cV 1) (cV 0) (cV 2)])]
theorem q0 (Rc : Rec) (σ : Env) (S : Store) : (evS GG kps Rc 64).B ⟨d0.N, L2.defScope d0.st, d0.cells, []⟩ σ (L2.defBody d0.st) S = r0 Rc σ S := by kernel_rfl
/-- is_number -/
def r1 (Rc : Rec) : CS := sBk [sRt (cBl .Or [cCmp .Is (cV 0) (cK .non), cFn GG Rc 0 3 [false, false, false] [cV 0, cK (.int 0), cK (.int 3)]])]
theorem q1 (Rc : Rec) (σ : Env) (S : Store) : (evS GG kps Rc 64).B ⟨d1.N, L2.defScope d1.st, d1.cells, []⟩ σ (L2.defBody d1.st) S = r1 Rc σ S := by kernel_rfl
/-- is_most -/
def r2 (Rc : Rec) : CS := sBk [sRt (cBl .Or [cCmp .Is (cV 1) (cK .non), cBl .And [cCmp .IsNot (cV 0) (cK .non), cCmp .LtE (cV 0) (cV 1)]])]
theorem q2 (Rc : Rec) (σ : Env) (S : Store) : (evS GG kps Rc 64).B ⟨d2.N, L2.defScope d2.st, d2.cells, []⟩ σ (L2.defBody d2.st) S = r2 Rc σ S := by kernel_rfl
/-- greater -/
def r3 (Rc : Rec) : CS := sBk [sRt (cIf (tE_ (cFn GG Rc 2 2 [false, false] [cV 0, cV 1])) (cV 1) (cV 0))]
theorem q3 (Rc : Rec) (σ : Env) (S : Store) : (evS GG kps Rc 64).B ⟨d3.N, L2.defScope d3.st, d3.cells, []⟩ σ (L2.defBody d3.st) S = r3 Rc σ S := by kernel_rfl
/-- World.__init__ -/
def r4 (Rc : Rec) : CS := sBk [sIf (tBl .Or [tNt (tE_ (cIs GG (.b "str") (cV 1))), tC_ (cCmp .NotIn (cV 1) (cK (.ktup [.str "each", .str "whole"]))), tNt (tE_ (cIs GG (.b "bool") (cV 5)))]) (sBk [sR0 1]) (sBk []),
  sIf (tNt (tE_ (cBi oAll [.p (cLc (wE_ (cTup [.p (cV 2), .p (cV 3), .p (cV 4)])) (.n 6) tTr (cFn GG Rc 1 1 [false] [cV 6]) [6])]))) (sBk [sR0 1]) (sBk []),
  sFd GG ("own_mode" : PySem.Str) false (cV 0) (cV 1),
  sFd GG ("numbers" : PySem.Str) false (cV 0) (cTup [.p (cV 2), .p (cV 3), .p (cV 4)]),
  sFd GG ("is_late" : PySem.Str) false (cV 0) (cV 5)]
theorem q4 (Rc : Rec) (σ : Env) (S : Store) : (evS GG kps Rc 64).B ⟨d4.N, L2.defScope d4.st, d4.cells, []⟩ σ (L2.defBody d4.st) S = r4 Rc σ S := by kernel_rfl
/-- World.mode -/
def r5 (Rc : Rec) : CS := sBk [sRt (cAt GG Rc ("own_mode" : PySem.Str) (cV 0))]
theorem q5 (Rc : Rec) (σ : Env) (S : Store) : (evS GG kps Rc 64).B ⟨d5.N, L2.defScope d5.st, d5.cells, []⟩ σ (L2.defBody d5.st) S = r5 Rc σ S := by kernel_rfl
/-- World.lost -/
def r6 (Rc : Rec) : CS := sBk [sRt (cSub (cAt GG Rc ("numbers" : PySem.Str) (cV 0)) (cK (.int 0)))]
theorem q6 (Rc : Rec) (σ : Env) (S : Store) : (evS GG kps Rc 64).B ⟨d6.N, L2.defScope d6.st, d6.cells, []⟩ σ (L2.defBody d6.st) S = r6 Rc σ S := by kernel_rfl
/-- World.breaks -/
def r7 (Rc : Rec) : CS := sBk [sRt (cSub (cAt GG Rc ("numbers" : PySem.Str) (cV 0)) (cK (.int 1)))]
theorem q7 (Rc : Rec) (σ : Env) (S : Store) : (evS GG kps Rc 64).B ⟨d7.N, L2.defScope d7.st, d7.cells, []⟩ σ (L2.defBody d7.st) S = r7 Rc σ S := by kernel_rfl
/-- World.fails -/
def r8 (Rc : Rec) : CS := sBk [sRt (cSub (cAt GG Rc ("numbers" : PySem.Str) (cV 0)) (cK (.int 2)))]
theorem q8 (Rc : Rec) (σ : Env) (S : Store) : (evS GG kps Rc 64).B ⟨d8.N, L2.defScope d8.st, d8.cells, []⟩ σ (L2.defBody d8.st) S = r8 Rc σ S := by kernel_rfl
/-- World.late -/
def r9 (Rc : Rec) : CS := sBk [sRt (cAt GG Rc ("is_late" : PySem.Str) (cV 0))]
theorem q9 (Rc : Rec) (σ : Env) (S : Store) : (evS GG kps Rc 64).B ⟨d9.N, L2.defScope d9.st, d9.cells, []⟩ σ (L2.defBody d9.st) S = r9 Rc σ S := by kernel_rfl
/-- World.parts -/
def r10 (Rc : Rec) : CS := sBk [sRt (cTup [.p (cAt GG Rc ("own_mode" : PySem.Str) (cV 0)), .p (cAt GG Rc ("numbers" : PySem.Str) (cV 0)), .p (cAt GG Rc ("is_late" : PySem.Str) (cV 0))])]
theorem q10 (Rc : Rec) (σ : Env) (S : Store) : (evS GG kps Rc 64).B ⟨d10.N, L2.defScope d10.st, d10.cells, []⟩ σ (L2.defBody d10.st) S = r10 Rc σ S := by kernel_rfl
/-- World.__eq__ -/
def r11 (Rc : Rec) : CS := sBk [sRt (cBl .And [cIs GG (.own 0) (cV 1), cEq GG Rc (cMt GG Rc ("parts" : PySem.Str) 0 (cV 0) []) (cMt GG Rc ("parts" : PySem.Str) 0 (cV 1) [])])]
theorem q11 (Rc : Rec) (σ : Env) (S : Store) : (evS GG kps Rc 64).B ⟨d11.N, L2.defScope d11.st, d11.cells, []⟩ σ (L2.defBody d11.st) S = r11 Rc σ S := by kernel_rfl
/-- World.is_milder -/
def r12 (Rc : Rec) : CS := sBk [sIf (tBl .Or [tC_ (cCmp .NotEq (cAt GG Rc ("own_mode" : PySem.Str) (cV 0)) (cAt GG Rc ("own_mode" : PySem.Str) (cV 1))), tBl .And [tE_ (cAt GG Rc ("is_late" : PySem.Str) (cV 0)), tNt (tE_ (cAt GG Rc ("is_late" : PySem.Str) (cV 1)))]]) (sBk [sRt (cK (.bl false))]) (sBk []),
  sRt (cBi oAll [.p (cLc (wZp [.p (cAt GG Rc ("numbers" : PySem.Str) (cV 0)), .p (cAt GG Rc ("numbers" : PySem.Str) (cV 1))]) (.t [.n 2, .n 3]) tTr (cFn GG Rc 2 2 [false, false] [cV 2, cV 3]) [2, 3])])]
theorem q12 (Rc : Rec) (σ : Env) (S : Store) : (evS GG kps Rc 64).B ⟨d12.N, L2.defScope d12.st, d12.cells, []⟩ σ (L2.defBody d12.st) S = r12 Rc σ S := by kernel_rfl
/-- World.__or__ -/
def r13 (Rc : Rec) : CS := sBk [sIf (tC_ (cCmp .NotEq (cAt GG Rc ("own_mode" : PySem.Str) (cV 0)) (cAt GG Rc ("own_mode" : PySem.Str) (cV 1)))) (sBk [sR0 2]) (sBk []),
  sTg (.t [.n 2, .n 3, .n 4]) (cLc (wZp [.p (cAt GG Rc ("numbers" : PySem.Str) (cV 0)), .p (cAt GG Rc ("numbers" : PySem.Str) (cV 1))]) (.t [.n 5, .n 6]) tTr (cFn GG Rc 3 2 [false, false] [cV 5, cV 6]) [5, 6]),
  sRt (cMk GG Rc kp0 [false, false, false, false, false] [cAt GG Rc ("own_mode" : PySem.Str) (cV 0)] [cV 2, cV 3, cV 4, cBl .Or [cAt GG Rc ("is_late" : PySem.Str) (cV 0), cAt GG Rc ("is_late" : PySem.Str) (cV 1)]])]
theorem q13 (Rc : Rec) (σ : Env) (S : Store) : (evS GG kps Rc 64).B ⟨d13.N, L2.defScope d13.st, d13.cells, []⟩ σ (L2.defBody d13.st) S = r13 Rc σ S := by kernel_rfl
/-- _law_mix -/
def r14 (Rc : Rec) : CS := sBk [sSt 2 false (cV 1),
  sFr (wE_ (cV 0)) (.n 3) (sBk [sSt 2 false (cBin .Mod (cBi oInt [.p (cBin .Add (cBin .Add (cBin .Mult (cV 2) (cK (.int 48271))) (cBin .Mod (cBi oInt [.p (cV 3)]) (cK (.int 2147483629)))) (cK (.int 1)))]) (cK (.int 2147483647)))]),
  sRt (cLst [.p (cV 2), .p (cBi oLst [.p (cV 0)]), .p (cK (.int 0))])]
theorem q14 (Rc : Rec) (σ : Env) (S : Store) : (evS GG kps Rc 64).B ⟨d14.N, L2.defScope d14.st, d14.cells, []⟩ σ (L2.defBody d14.st) S = r14 Rc σ S := by kernel_rfl
/-- _law_next -/
def r15 (Rc : Rec) : CS := sBk [sSt 2 false (cSub (cBin .Add (cSub (cV 0) (cK (.int 1))) (cLst [.p (cK (.int 0))])) (cBin .Mod (cBi oInt [.p (cSub (cV 0) (cK (.int 2)))]) (cBi oMax [.p (cK (.int 1)), .p (cBi oLen [.p (cSub (cV 0) (cK (.int 1)))])]))),
  sIf (tC_ (cCmp .GtE (cV 2) (cBin .Pow (cK (.int 10)) (cK (.int 18))))) (sBk [sIx (cSub (cV 0) (cK (.int 1))) (cBin .Mod (cBi oInt [.p (cSub (cV 0) (cK (.int 2)))]) (cBi oLen [.p (cSub (cV 0) (cK (.int 1)))])) (cBin .FloorDiv (cV 2) (cV 1)),
  sRt (cBin .Mod (cBi oInt [.p (cV 2)]) (cV 1))]) (sBk []),
  sIx (cV 0) (cK (.int 0)) (cBin .Mod (cBi oInt [.p (cBin .Add (cBin .Add (cBin .Mult (cSub (cV 0) (cK (.int 0))) (cK (.int 48271))) (cBin .Mult (cV 2) (cK (.int 69621)))) (cK (.int 11)))]) (cK (.int 2147483647))),
  sIx (cV 0) (cK (.int 2)) (cBin .Add (cSub (cV 0) (cK (.int 2))) (cK (.int 1))),
  sRt (cBin .Mod (cBi oInt [.p (cBin .FloorDiv (cSub (cV 0) (cK (.int 0))) (cK (.int 7)))]) (cV 1))]
theorem q15 (Rc : Rec) (σ : Env) (S : Store) : (evS GG kps Rc 64).B ⟨d15.N, L2.defScope d15.st, d15.cells, []⟩ σ (L2.defBody d15.st) S = r15 Rc σ S := by kernel_rfl
/-- _law_alike -/
def r16 (Rc : Rec) : CS := sBk [sIf (tE_ (cIs GG (.b "dict") (cV 1))) (sBk [sRt (cBl .And [cIs GG (.b "dict") (cV 0), cFn GG Rc 16 2 [false, false] [cBi oLst [.p (cV 0)], cBi oLst [.p (cV 1)]], cEq GG Rc (cV 0) (cV 1)])]) (sBk []),
  sIf (tE_ (cIsT GG [(.b "tuple"), (.b "list")] (cV 1))) (sBk [sIf (tBl .Or [tNt (tE_ (cIsT GG [(.b "tuple"), (.b "list")] (cV 0))), tC_ (cCmp .NotEq (cIs GG (.b "list") (cV 0)) (cIs GG (.b "list") (cV 1)))]) (sBk [sRt (cK (.bl false))]) (sBk []),
  sIf (tC_ (cCmp .NotEq (cBi oLen [.p (cV 0)]) (cBi oLen [.p (cV 1)]))) (sBk [sRt (cK (.bl false))]) (sBk []),
  sRt (cEq GG Rc (cLc (wRg [.p (cBi oLen [.p (cV 1)])]) (.n 2) (tNt (tE_ (cFn GG Rc 16 2 [false, false] [cSub (cV 0) (cV 2), cSub (cV 1) (cV 2)]))) (cV 2) [2]) (cLst []))]) (sBk []),
  sIf (tBl .Or [tC_ (cCmp .Is (cV 1) (cK .non)), tE_ (cIs GG (.b "str") (cV 1))]) (sBk [sRt (cBl .And [cEq GG Rc (cV 0) (cV 1), cEq GG Rc (cIs GG (.b "str") (cV 0)) (cIs GG (.b "str") (cV 1))])]) (sBk []),
  sRt (cBl .And [cIs GG (.b "int") (cV 0), cEq GG Rc (cIs GG (.b "bool") (cV 0)) (cIs GG (.b "bool") (cV 1)), cEq GG Rc (cV 0) (cV 1)])]
theorem q16 (Rc : Rec) (σ : Env) (S : Store) : (evS GG kps Rc 64).B ⟨d16.N, L2.defScope d16.st, d16.cells, []⟩ σ (L2.defBody d16.st) S = r16 Rc σ S := by kernel_rfl
/-- _law_world -/
def r17 (Rc : Rec) : CS := sBk [sP2 2 3 [false, false] [cSub (cLst [.p (cK (.int 0)), .p (cK (.int 1)), .p (cK (.int 1)), .p (cK (.int 2)), .p (cK .non)]) (cFn GG Rc 15 2 [true, false] [cV 0, cK (.int 5)]), cSub (cLst [.p (cK (.int 0)), .p (cK (.int 1)), .p (cK .non), .p (cK .non)]) (cFn GG Rc 15 2 [true, false] [cV 0, cK (.int 4)])],
  sSt 1 false (cSub (cLst [.p (cK (.int 0)), .p (cK (.int 0)), .p (cK (.int 1)), .p (cK .non)]) (cFn GG Rc 15 2 [true, false] [cV 0, cK (.int 4)])),
  sRt (cTup [.p (cSub (cLst [.p (cK (.str ("each" : PySem.Str))), .p (cK (.str ("each" : PySem.Str))), .p (cK (.str ("whole" : PySem.Str)))]) (cFn GG Rc 15 2 [true, false] [cV 0, cK (.int 3)])), .p (cV 2), .p (cV 1), .p (cV 3), .p (cEq GG Rc (cFn GG Rc 15 2 [true, false] [cV 0, cK (.int 4)]) (cK (.int 0)))])]
theorem q17 (Rc : Rec) (σ : Env) (S : Store) : (evS GG kps Rc 64).B ⟨d17.N, L2.defScope d17.st, d17.cells, []⟩ σ (L2.defBody d17.st) S = r17 Rc σ S := by kernel_rfl
/-- _law_made -/
def r18 (Rc : Rec) : CS := sBk [sRt (cMk GG Rc kp0 [false, false, false, false, false] [cSub (cV 0) (cK (.int 0))] [cSub (cV 0) (cK (.int 1)), cSub (cV 0) (cK (.int 2)), cSub (cV 0) (cK (.int 3)), cSub (cV 0) (cK (.int 4))])]
theorem q18 (Rc : Rec) (σ : Env) (S : Store) : (evS GG kps Rc 64).B ⟨d18.N, L2.defScope d18.st, d18.cells, []⟩ σ (L2.defBody d18.st) S = r18 Rc σ S := by kernel_rfl
/-- _law_number -/
def r19 (Rc : Rec) : CS := sBk [sRt (cIf (tC_ (cCmp .Is (cV 0) (cK .non))) (cK (.int 9)) (cV 0))]
theorem q19 (Rc : Rec) (σ : Env) (S : Store) : (evS GG kps Rc 64).B ⟨d19.N, L2.defScope d19.st, d19.cells, []⟩ σ (L2.defBody d19.st) S = r19 Rc σ S := by kernel_rfl
/-- _law_refused -/
def r20 (Rc : Rec) : CS := sBk [sSt 4 true (cLst [.p (cK (.int 0)), .p (cK (.int 0)), .p (cK (.int 0))]),
  sIx (cV 4) (cV 3) (cV 1),
  sSt 5 false (cK (.bl false)),
  sTy GG (sBk [sEx (cMk GG Rc kp0 [false, false, false, false, false] [cV 0] [cSub (cV 4) (cK (.int 0)), cSub (cV 4) (cK (.int 1)), cSub (cV 4) (cK (.int 2)), cV 2])]) [⟨1, (some 6), 5, false, fun xi fs => (if xi.anc.contains 0 = true then some (D.bl true) else none).map RV.d⟩],
  sRt (cV 5)]
theorem q20 (Rc : Rec) (σ : Env) (S : Store) : (evS GG kps Rc 64).B ⟨d20.N, L2.defScope d20.st, d20.cells, []⟩ σ (L2.defBody d20.st) S = r20 Rc σ S := by kernel_rfl
/-- _law_joined -/
def r21 (Rc : Rec) : CS := sBk [sSt 2 false (cK .non),
  sTy GG (sBk [sSt 2 false (cOr GG Rc (cV 0) (cV 1))]) [⟨2, none, 2, false, fun xi fs => (some .non).map RV.d⟩],
  sRt (cV 2)]
theorem q21 (Rc : Rec) (σ : Env) (S : Store) : (evS GG kps Rc 64).B ⟨d21.N, L2.defScope d21.st, d21.cells, []⟩ σ (L2.defBody d21.st) S = r21 Rc σ S := by kernel_rfl
/-- law -/
def r22 (Rc : Rec) : CS := sBk [sSt 1 false (cFn GG Rc 14 2 [false, false] [cV 0, cK (.int 3)]),
  sFr (wRg [.p (cK (.int 8))]) (.n 2) (sBk [sTg (.t [.n 10, .n 11]) (cTup [.p (cFn GG Rc 17 1 [false] [cV 1]), .p (cFn GG Rc 17 1 [false] [cV 1])]),
  sP2 12 13 [false, false] [cFn GG Rc 18 1 [false] [cV 10], cFn GG Rc 18 1 [false] [cV 11]],
  sIf (tNt (tE_ (cFn GG Rc 16 2 [false, false] [cTup [.p (cAt GG Rc ("mode" : PySem.Str) (cV 12)), .p (cAt GG Rc ("lost" : PySem.Str) (cV 12)), .p (cAt GG Rc ("breaks" : PySem.Str) (cV 12)), .p (cAt GG Rc ("fails" : PySem.Str) (cV 12)), .p (cAt GG Rc ("late" : PySem.Str) (cV 12))], cV 10]))) (sBk [sRt (cK (.bl false))]) (sBk []),
  sIf (tBl .Or [tC_ (cCmp .NotEq (cEq GG Rc (cV 12) (cV 13)) (cEq GG Rc (cV 10) (cV 11))), tC_ (cEq GG Rc (cV 12) (cV 10))]) (sBk [sRt (cK (.bl false))]) (sBk []),
  sSt 5 false (cLc (wE_ (cTup [.p (cK (.int 1)), .p (cK (.int 2)), .p (cK (.int 3))])) (.n 17) tTr (cTup [.p (cFn GG Rc 19 1 [false] [cSub (cV 10) (cV 17)]), .p (cFn GG Rc 19 1 [false] [cSub (cV 11) (cV 17)])]) [17]),
  sSt 6 false (cBl .And [cEq GG Rc (cSub (cV 10) (cK (.int 0))) (cSub (cV 11) (cK (.int 0))), cEq GG Rc (cLc (wE_ (cV 5)) (.n 19) (tC_ (cCmp .Gt (cSub (cV 19) (cK (.int 0))) (cSub (cV 19) (cK (.int 1))))) (cV 19) [19]) (cLst [])]),
  sIf (tBl .Or [tNt (tE_ (cFn GG Rc 16 2 [false, false] [cMt GG Rc ("is_milder" : PySem.Str) 1 (cV 12) [cV 13], cBl .And [cV 6, cBl .Or [cSub (cV 11) (cK (.int 4)), cNot (cSub (cV 10) (cK (.int 4)))]]])), tNt (tE_ (cMt GG Rc ("is_milder" : PySem.Str) 1 (cV 12) [cV 12]))]) (sBk [sRt (cK (.bl false))]) (sBk []),
  sSt 7 false (cFn GG Rc 21 2 [false, false] [cV 12, cV 13]),
  sIf (tC_ (cCmp .NotEq (cCmp .Is (cV 7) (cK .non)) (cCmp .NotEq (cSub (cV 10) (cK (.int 0))) (cSub (cV 11) (cK (.int 0)))))) (sBk [sRt (cK (.bl false))]) (sBk []),
  sIf (tC_ (cCmp .IsNot (cV 7) (cK .non))) (sBk [sSt 14 false (cLc (wE_ (cV 5)) (.n 19) tTr (cIf (tC_ (cEq GG Rc (cBi oMax [.p (cV 19)]) (cK (.int 9)))) (cK .non) (cBi oMax [.p (cV 19)])) [19]),
  sSt 15 false (cBin .Add (cBin .Add (cTup [.p (cSub (cV 10) (cK (.int 0)))]) (cBi oTup [.p (cV 14)])) (cTup [.p (cBl .Or [cSub (cV 10) (cK (.int 4)), cSub (cV 11) (cK (.int 4))])])),
  sIf (tNt (tE_ (cFn GG Rc 16 2 [false, false] [cTup [.p (cAt GG Rc ("mode" : PySem.Str) (cV 7)), .p (cAt GG Rc ("lost" : PySem.Str) (cV 7)), .p (cAt GG Rc ("breaks" : PySem.Str) (cV 7)), .p (cAt GG Rc ("fails" : PySem.Str) (cV 7)), .p (cAt GG Rc ("late" : PySem.Str) (cV 7))], cV 15]))) (sBk [sRt (cK (.bl false))]) (sBk [])]) (sBk []),
  sSt 8 false (cFn GG Rc 15 2 [true, false] [cV 1, cK (.int 3)]),
  sSt 9 false (cSub (cLst [.p (cNeg (cK (.int 1))), .p (cK (.int 4)), .p (cK (.bl true)), .p (cK (.bl false)), .p (cK (.str ("1" : PySem.Str))), .p (cTup []), .p (cDic)]) (cFn GG Rc 15 2 [true, false] [cV 1, cK (.int 7)])),
  sIf (tNt (tE_ (cFn GG Rc 20 4 [false, false, false, false] [cK (.str ("each" : PySem.Str)), cV 9, cK (.bl false), cV 8]))) (sBk [sRt (cK (.bl false))]) (sBk [])]),
  sIf (tBl .Or [tE_ (cFn GG Rc 20 4 [false, false, false, false] [cK (.str ("whole" : PySem.Str)), cK .non, cK (.bl true), cK (.int 0)]), tE_ (cFn GG Rc 20 4 [false, false, false, false] [cK (.str ("each" : PySem.Str)), cK (.int 3), cK (.bl false), cK (.int 2)])]) (sBk [sRt (cK (.bl false))]) (sBk []),
  sSt 3 false (cLc (wE_ (cLst [.p (cK (.str ("" : PySem.Str))), .p (cK (.str ("both" : PySem.Str))), .p (cK .non), .p (cK (.int 1))])) (.n 16) tTr (cFn GG Rc 20 4 [false, false, false, false] [cV 16, cK (.int 0), cK (.bl false), cK (.int 0)]) [16]),
  sSt 3 false (cBin .Add (cV 3) (cLc (wE_ (cLst [.p (cK (.int 1)), .p (cK (.int 0)), .p (cK .non), .p (cK (.str ("x" : PySem.Str)))])) (.n 18) tTr (cFn GG Rc 20 4 [false, false, false, false] [cK (.str ("each" : PySem.Str)), cK (.int 0), cV 18, cK (.int 1)]) [18])),
  sSt 4 false (cMk GG Rc kp1 [false, false, false, false, false] [] []),
  sIf (tC_ (cCmp .NotEq (cTup [.p (cAt GG Rc ("mode" : PySem.Str) (cV 4)), .p (cAt GG Rc ("lost" : PySem.Str) (cV 4)), .p (cAt GG Rc ("breaks" : PySem.Str) (cV 4)), .p (cAt GG Rc ("fails" : PySem.Str) (cV 4)), .p (cAt GG Rc ("late" : PySem.Str) (cV 4))]) (cTup [.p (cK (.str ("each" : PySem.Str))), .p (cK (.int 0)), .p (cK (.int 0)), .p (cK .non), .p (cK (.bl false))]))) (sBk [sRt (cK (.bl false))]) (sBk []),
  sRt (cEq GG Rc (cV 3) (cBin .Mult (cLst [.p (cK (.bl true))]) (cK (.int 8))))]
theorem q22 (Rc : Rec) (σ : Env) (S : Store) : (evS GG kps Rc 64).B ⟨d22.N, L2.defScope d22.st, d22.cells, []⟩ σ (L2.defBody d22.st) S = r22 Rc σ S := by kernel_rfl
theorem f0 {n : Nat} {w0 w1 w2 : W} {S : Store} : callF GG (ev GG kps (n + 1)) 0 [w0, w1, w2] S = if pureW [w0, w1, w2] = true then outP GG S (r0 (ev GG kps n) [some w0, some w1, some w2] []) else outI (r0 (ev GG kps n) [some w0, some w1, some w2] S) := callF_eq (fi := d0.fnI) rfl rfl (q0 (ev GG kps n))
theorem y0 {n : Nat} {w0 w1 w2 : W} {S : Store} : callX GG (ev GG kps n) 0 3 [w0, w1, w2] S = callF GG (ev GG kps n) 0 [w0, w1, w2] S := by kernel_rfl
theorem f1 {n : Nat} {w0 : W} {S : Store} : callF GG (ev GG kps (n + 1)) 1 [w0] S = if pureW [w0] = true then outP GG S (r1 (ev GG kps n) [some w0] []) else outI (r1 (ev GG kps n) [some w0] S) := callF_eq (fi := d1.fnI) rfl rfl (q1 (ev GG kps n))
theorem y1 {n : Nat} {w0 : W} {S : Store} : callX GG (ev GG kps n) 1 1 [w0] S = callF GG (ev GG kps n) 1 [w0] S := by kernel_rfl
theorem f2 {n : Nat} {w0 w1 : W} {S : Store} : callF GG (ev GG kps (n + 1)) 2 [w0, w1] S = if pureW [w0, w1] = true then outP GG S (r2 (ev GG kps n) [some w0, some w1] []) else outI (r2 (ev GG kps n) [some w0, some w1] S) := callF_eq (fi := d2.fnI) rfl rfl (q2 (ev GG kps n))
theorem y2 {n : Nat} {w0 w1 : W} {S : Store} : callX GG (ev GG kps n) 2 2 [w0, w1] S = callF GG (ev GG kps n) 2 [w0, w1] S := by kernel_rfl
theorem f3 {n : Nat} {w0 w1 : W} {S : Store} : callF GG (ev GG kps (n + 1)) 3 [w0, w1] S = if pureW [w0, w1] = true then outP GG S (r3 (ev GG kps n) [some w0, some w1] []) else outI (r3 (ev GG kps n) [some w0, some w1] S) := callF_eq (fi := d3.fnI) rfl rfl (q3 (ev GG kps n))
theorem y3 {n : Nat} {w0 w1 : W} {S : Store} : callX GG (ev GG kps n) 3 2 [w0, w1] S = callF GG (ev GG kps n) 3 [w0, w1] S := by kernel_rfl
theorem f4 {n : Nat} {w0 w1 w2 w3 w4 w5 : W} {S : Store} : callF GG (ev GG kps (n + 1)) 4 [w0, w1, w2, w3, w4, w5] S = if pureW [w0, w1, w2, w3, w4, w5] = true then outP GG S (r4 (ev GG kps n) [some w0, some w1, some w2, some w3, some w4, some w5, none] []) else outI (r4 (ev GG kps n) [some w0, some w1, some w2, some w3, some w4, some w5, none] S) := callF_eq (fi := d4.fnI) rfl rfl (q4 (ev GG kps n))
theorem f5 {n : Nat} {w0 : W} {S : Store} : callF GG (ev GG kps (n + 1)) 5 [w0] S = if pureW [w0] = true then outP GG S (r5 (ev GG kps n) [some w0] []) else outI (r5 (ev GG kps n) [some w0] S) := callF_eq (fi := d5.fnI) rfl rfl (q5 (ev GG kps n))
theorem y5 {n : Nat} {w0 : W} {S : Store} : callX GG (ev GG kps n) 5 1 [w0] S = callF GG (ev GG kps n) 5 [w0] S := by kernel_rfl
theorem f6 {n : Nat} {w0 : W} {S : Store} : callF GG (ev GG kps (n + 1)) 6 [w0] S = if pureW [w0] = true then outP GG S (r6 (ev GG kps n) [some w0] []) else outI (r6 (ev GG kps n) [some w0] S) := callF_eq (fi := d6.fnI) rfl rfl (q6 (ev GG kps n))
theorem y6 {n : Nat} {w0 : W} {S : Store} : callX GG (ev GG kps n) 6 1 [w0] S = callF GG (ev GG kps n) 6 [w0] S := by kernel_rfl
theorem f7 {n : Nat} {w0 : W} {S : Store} : callF GG (ev GG kps (n + 1)) 7 [w0] S = if pureW [w0] = true then outP GG S (r7 (ev GG kps n) [some w0] []) else outI (r7 (ev GG kps n) [some w0] S) := callF_eq (fi := d7.fnI) rfl rfl (q7 (ev GG kps n))
theorem y7 {n : Nat} {w0 : W} {S : Store} : callX GG (ev GG kps n) 7 1 [w0] S = callF GG (ev GG kps n) 7 [w0] S := by kernel_rfl
theorem f8 {n : Nat} {w0 : W} {S : Store} : callF GG (ev GG kps (n + 1)) 8 [w0] S = if pureW [w0] = true then outP GG S (r8 (ev GG kps n) [some w0] []) else outI (r8 (ev GG kps n) [some w0] S) := callF_eq (fi := d8.fnI) rfl rfl (q8 (ev GG kps n))
theorem y8 {n : Nat} {w0 : W} {S : Store} : callX GG (ev GG kps n) 8 1 [w0] S = callF GG (ev GG kps n) 8 [w0] S := by kernel_rfl
theorem f9 {n : Nat} {w0 : W} {S : Store} : callF GG (ev GG kps (n + 1)) 9 [w0] S = if pureW [w0] = true then outP GG S (r9 (ev GG kps n) [some w0] []) else outI (r9 (ev GG kps n) [some w0] S) := callF_eq (fi := d9.fnI) rfl rfl (q9 (ev GG kps n))
theorem y9 {n : Nat} {w0 : W} {S : Store} : callX GG (ev GG kps n) 9 1 [w0] S = callF GG (ev GG kps n) 9 [w0] S := by kernel_rfl
theorem f10 {n : Nat} {w0 : W} {S : Store} : callF GG (ev GG kps (n + 1)) 10 [w0] S = if pureW [w0] = true then outP GG S (r10 (ev GG kps n) [some w0] []) else outI (r10 (ev GG kps n) [some w0] S) := callF_eq (fi := d10.fnI) rfl rfl (q10 (ev GG kps n))
theorem y10 {n : Nat} {w0 : W} {S : Store} : callX GG (ev GG kps n) 10 1 [w0] S = callF GG (ev GG kps n) 10 [w0] S := by kernel_rfl
theorem f11 {n : Nat} {w0 w1 : W} {S : Store} : callF GG (ev GG kps (n + 1)) 11 [w0, w1] S = if pureW [w0, w1] = true then outP GG S (r11 (ev GG kps n) [some w0, some w1] []) else outI (r11 (ev GG kps n) [some w0, some w1] S) := callF_eq (fi := d11.fnI) rfl rfl (q11 (ev GG kps n))
theorem y11 {n : Nat} {w0 w1 : W} {S : Store} : callX GG (ev GG kps n) 11 2 [w0, w1] S = callF GG (ev GG kps n) 11 [w0, w1] S := by kernel_rfl
theorem f12 {n : Nat} {w0 w1 : W} {S : Store} : callF GG (ev GG kps (n + 1)) 12 [w0, w1] S = if pureW [w0, w1] = true then outP GG S (r12 (ev GG kps n) [some w0, some w1, none, none] []) else outI (r12 (ev GG kps n) [some w0, some w1, none, none] S) := callF_eq (fi := d12.fnI) rfl rfl (q12 (ev GG kps n))
theorem y12 {n : Nat} {w0 w1 : W} {S : Store} : callX GG (ev GG kps n) 12 2 [w0, w1] S = callF GG (ev GG kps n) 12 [w0, w1] S := by kernel_rfl
theorem f13 {n : Nat} {w0 w1 : W} {S : Store} : callF GG (ev GG kps (n + 1)) 13 [w0, w1] S = if pureW [w0, w1] = true then outP GG S (r13 (ev GG kps n) [some w0, some w1, none, none, none, none, none] []) else outI (r13 (ev GG kps n) [some w0, some w1, none, none, none, none, none] S) := callF_eq (fi := d13.fnI) rfl rfl (q13 (ev GG kps n))
theorem y13 {n : Nat} {w0 w1 : W} {S : Store} : callX GG (ev GG kps n) 13 2 [w0, w1] S = callF GG (ev GG kps n) 13 [w0, w1] S := by kernel_rfl
theorem f14 {n : Nat} {w0 w1 : W} {S : Store} : callF GG (ev GG kps (n + 1)) 14 [w0, w1] S = if pureW [w0, w1] = true then outP GG S (r14 (ev GG kps n) [some w0, some w1, none, none] []) else outI (r14 (ev GG kps n) [some w0, some w1, none, none] S) := callF_eq (fi := d14.fnI) rfl rfl (q14 (ev GG kps n))
theorem y14 {n : Nat} {w0 w1 : W} {S : Store} : callX GG (ev GG kps n) 14 2 [w0, w1] S = callF GG (ev GG kps n) 14 [w0, w1] S := by kernel_rfl
theorem f15 {n : Nat} {w0 w1 : W} {S : Store} : callF GG (ev GG kps (n + 1)) 15 [w0, w1] S = if pureW [w0, w1] = true then outP GG S (r15 (ev GG kps n) [some w0, some w1, none] []) else outI (r15 (ev GG kps n) [some w0, some w1, none] S) := callF_eq (fi := d15.fnI) rfl rfl (q15 (ev GG kps n))
theorem y15 {n : Nat} {w0 w1 : W} {S : Store} : callX GG (ev GG kps n) 15 2 [w0, w1] S = callF GG (ev GG kps n) 15 [w0, w1] S := by kernel_rfl
theorem f16 {n : Nat} {w0 w1 : W} {S : Store} : callF GG (ev GG kps (n + 1)) 16 [w0, w1] S = if pureW [w0, w1] = true then outP GG S (r16 (ev GG kps n) [some w0, some w1, none] []) else outI (r16 (ev GG kps n) [some w0, some w1, none] S) := callF_eq (fi := d16.fnI) rfl rfl (q16 (ev GG kps n))
theorem y16 {n : Nat} {w0 w1 : W} {S : Store} : callX GG (ev GG kps n) 16 2 [w0, w1] S = callF GG (ev GG kps n) 16 [w0, w1] S := by kernel_rfl
theorem f17 {n : Nat} {w0 : W} {S : Store} : callF GG (ev GG kps (n + 1)) 17 [w0] S = if pureW [w0] = true then outP GG S (r17 (ev GG kps n) [some w0, none, none, none] []) else outI (r17 (ev GG kps n) [some w0, none, none, none] S) := callF_eq (fi := d17.fnI) rfl rfl (q17 (ev GG kps n))
theorem y17 {n : Nat} {w0 : W} {S : Store} : callX GG (ev GG kps n) 17 1 [w0] S = callF GG (ev GG kps n) 17 [w0] S := by kernel_rfl
theorem f18 {n : Nat} {w0 : W} {S : Store} : callF GG (ev GG kps (n + 1)) 18 [w0] S = if pureW [w0] = true then outP GG S (r18 (ev GG kps n) [some w0] []) else outI (r18 (ev GG kps n) [some w0] S) := callF_eq (fi := d18.fnI) rfl rfl (q18 (ev GG kps n))
theorem y18 {n : Nat} {w0 : W} {S : Store} : callX GG (ev GG kps n) 18 1 [w0] S = callF GG (ev GG kps n) 18 [w0] S := by kernel_rfl
theorem f19 {n : Nat} {w0 : W} {S : Store} : callF GG (ev GG kps (n + 1)) 19 [w0] S = if pureW [w0] = true then outP GG S (r19 (ev GG kps n) [some w0] []) else outI (r19 (ev GG kps n) [some w0] S) := callF_eq (fi := d19.fnI) rfl rfl (q19 (ev GG kps n))
theorem y19 {n : Nat} {w0 : W} {S : Store} : callX GG (ev GG kps n) 19 1 [w0] S = callF GG (ev GG kps n) 19 [w0] S := by kernel_rfl
theorem f20 {n : Nat} {w0 w1 w2 w3 : W} {S : Store} : callF GG (ev GG kps (n + 1)) 20 [w0, w1, w2, w3] S = if pureW [w0, w1, w2, w3] = true then outP GG S (r20 (ev GG kps n) [some w0, some w1, some w2, some w3, none, none, none] []) else outI (r20 (ev GG kps n) [some w0, some w1, some w2, some w3, none, none, none] S) := callF_eq (fi := d20.fnI) rfl rfl (q20 (ev GG kps n))
theorem y20 {n : Nat} {w0 w1 w2 w3 : W} {S : Store} : callX GG (ev GG kps n) 20 4 [w0, w1, w2, w3] S = callF GG (ev GG kps n) 20 [w0, w1, w2, w3] S := by kernel_rfl
theorem f21 {n : Nat} {w0 w1 : W} {S : Store} : callF GG (ev GG kps (n + 1)) 21 [w0, w1] S = if pureW [w0, w1] = true then outP GG S (r21 (ev GG kps n) [some w0, some w1, none] []) else outI (r21 (ev GG kps n) [some w0, some w1, none] S) := callF_eq (fi := d21.fnI) rfl rfl (q21 (ev GG kps n))
theorem y21 {n : Nat} {w0 w1 : W} {S : Store} : callX GG (ev GG kps n) 21 2 [w0, w1] S = callF GG (ev GG kps n) 21 [w0, w1] S := by kernel_rfl
theorem f22 {n : Nat} {w0 : W} {S : Store} : callF GG (ev GG kps (n + 1)) 22 [w0] S = if pureW [w0] = true then outP GG S (r22 (ev GG kps n) [some w0, none, none, none, none, none, none, none, none, none, none, none, none, none, none, none, none, none, none, none] []) else outI (r22 (ev GG kps n) [some w0, none, none, none, none, none, none, none, none, none, none, none, none, none, none, none, none, none, none, none] S) := callF_eq (fi := d22.fnI) rfl rfl (q22 (ev GG kps n))
theorem y22 {n : Nat} {w0 : W} {S : Store} : callX GG (ev GG kps n) 22 1 [w0] S = callF GG (ev GG kps n) 22 [w0] S := by kernel_rfl
def rLaw (Rc : Rec) : CS := sBk [sFr (wRg [.p (cK (.int 8))]) (.n 2) (sBk [sTg (.t [.n 10, .n 11]) (cTup [.p (cFn GG Rc 17 1 [false] [cV 1]), .p (cFn GG Rc 17 1 [false] [cV 1])]),
  sP2 12 13 [false, false] [cFn GG Rc 18 1 [false] [cV 10], cFn GG Rc 18 1 [false] [cV 11]],
  sIf (tNt (tE_ (cFn GG Rc 16 2 [false, false] [cTup [.p (cAt GG Rc ("mode" : PySem.Str) (cV 12)), .p (cAt GG Rc ("lost" : PySem.Str) (cV 12)), .p (cAt GG Rc ("breaks" : PySem.Str) (cV 12)), .p (cAt GG Rc ("fails" : PySem.Str) (cV 12)), .p (cAt GG Rc ("late" : PySem.Str) (cV 12))], cV 10]))) (sBk [sRt (cK (.bl false))]) (sBk []),
  sIf (tBl .Or [tC_ (cCmp .NotEq (cEq GG Rc (cV 12) (cV 13)) (cEq GG Rc (cV 10) (cV 11))), tC_ (cEq GG Rc (cV 12) (cV 10))]) (sBk [sRt (cK (.bl false))]) (sBk []),
  sSt 5 false (cLc (wE_ (cTup [.p (cK (.int 1)), .p (cK (.int 2)), .p (cK (.int 3))])) (.n 17) tTr (cTup [.p (cFn GG Rc 19 1 [false] [cSub (cV 10) (cV 17)]), .p (cFn GG Rc 19 1 [false] [cSub (cV 11) (cV 17)])]) [17]),
  sSt 6 false (cBl .And [cEq GG Rc (cSub (cV 10) (cK (.int 0))) (cSub (cV 11) (cK (.int 0))), cEq GG Rc (cLc (wE_ (cV 5)) (.n 19) (tC_ (cCmp .Gt (cSub (cV 19) (cK (.int 0))) (cSub (cV 19) (cK (.int 1))))) (cV 19) [19]) (cLst [])]),
  sIf (tBl .Or [tNt (tE_ (cFn GG Rc 16 2 [false, false] [cMt GG Rc ("is_milder" : PySem.Str) 1 (cV 12) [cV 13], cBl .And [cV 6, cBl .Or [cSub (cV 11) (cK (.int 4)), cNot (cSub (cV 10) (cK (.int 4)))]]])), tNt (tE_ (cMt GG Rc ("is_milder" : PySem.Str) 1 (cV 12) [cV 12]))]) (sBk [sRt (cK (.bl false))]) (sBk []),
  sSt 7 false (cFn GG Rc 21 2 [false, false] [cV 12, cV 13]),
  sIf (tC_ (cCmp .NotEq (cCmp .Is (cV 7) (cK .non)) (cCmp .NotEq (cSub (cV 10) (cK (.int 0))) (cSub (cV 11) (cK (.int 0)))))) (sBk [sRt (cK (.bl false))]) (sBk []),
  sIf (tC_ (cCmp .IsNot (cV 7) (cK .non))) (sBk [sSt 14 false (cLc (wE_ (cV 5)) (.n 19) tTr (cIf (tC_ (cEq GG Rc (cBi oMax [.p (cV 19)]) (cK (.int 9)))) (cK .non) (cBi oMax [.p (cV 19)])) [19]),
  sSt 15 false (cBin .Add (cBin .Add (cTup [.p (cSub (cV 10) (cK (.int 0)))]) (cBi oTup [.p (cV 14)])) (cTup [.p (cBl .Or [cSub (cV 10) (cK (.int 4)), cSub (cV 11) (cK (.int 4))])])),
  sIf (tNt (tE_ (cFn GG Rc 16 2 [false, false] [cTup [.p (cAt GG Rc ("mode" : PySem.Str) (cV 7)), .p (cAt GG Rc ("lost" : PySem.Str) (cV 7)), .p (cAt GG Rc ("breaks" : PySem.Str) (cV 7)), .p (cAt GG Rc ("fails" : PySem.Str) (cV 7)), .p (cAt GG Rc ("late" : PySem.Str) (cV 7))], cV 15]))) (sBk [sRt (cK (.bl false))]) (sBk [])]) (sBk []),
  sSt 8 false (cFn GG Rc 15 2 [true, false] [cV 1, cK (.int 3)]),
  sSt 9 false (cSub (cLst [.p (cNeg (cK (.int 1))), .p (cK (.int 4)), .p (cK (.bl true)), .p (cK (.bl false)), .p (cK (.str ("1" : PySem.Str))), .p (cTup []), .p (cDic)]) (cFn GG Rc 15 2 [true, false] [cV 1, cK (.int 7)])),
  sIf (tNt (tE_ (cFn GG Rc 20 4 [false, false, false, false] [cK (.str ("each" : PySem.Str)), cV 9, cK (.bl false), cV 8]))) (sBk [sRt (cK (.bl false))]) (sBk [])]),
  sIf (tBl .Or [tE_ (cFn GG Rc 20 4 [false, false, false, false] [cK (.str ("whole" : PySem.Str)), cK .non, cK (.bl true), cK (.int 0)]), tE_ (cFn GG Rc 20 4 [false, false, false, false] [cK (.str ("each" : PySem.Str)), cK (.int 3), cK (.bl false), cK (.int 2)])]) (sBk [sRt (cK (.bl false))]) (sBk []),
  sSt 3 false (cLc (wE_ (cLst [.p (cK (.str ("" : PySem.Str))), .p (cK (.str ("both" : PySem.Str))), .p (cK .non), .p (cK (.int 1))])) (.n 16) tTr (cFn GG Rc 20 4 [false, false, false, false] [cV 16, cK (.int 0), cK (.bl false), cK (.int 0)]) [16]),
  sSt 3 false (cBin .Add (cV 3) (cLc (wE_ (cLst [.p (cK (.int 1)), .p (cK (.int 0)), .p (cK .non), .p (cK (.str ("x" : PySem.Str)))])) (.n 18) tTr (cFn GG Rc 20 4 [false, false, false, false] [cK (.str ("each" : PySem.Str)), cK (.int 0), cV 18, cK (.int 1)]) [18])),
  sSt 4 false (cMk GG Rc kp1 [false, false, false, false, false] [] []),
  sIf (tC_ (cCmp .NotEq (cTup [.p (cAt GG Rc ("mode" : PySem.Str) (cV 4)), .p (cAt GG Rc ("lost" : PySem.Str) (cV 4)), .p (cAt GG Rc ("breaks" : PySem.Str) (cV 4)), .p (cAt GG Rc ("fails" : PySem.Str) (cV 4)), .p (cAt GG Rc ("late" : PySem.Str) (cV 4))]) (cTup [.p (cK (.str ("each" : PySem.Str))), .p (cK (.int 0)), .p (cK (.int 0)), .p (cK .non), .p (cK (.bl false))]))) (sBk [sRt (cK (.bl false))]) (sBk []),
  sRt (cEq GG Rc (cV 3) (cBin .Mult (cLst [.p (cK (.bl true))]) (cK (.int 8))))]
theorem qLaw (Rc : Rec) (σ : Env) (S : Store) : (evS GG kps Rc 64).B ⟨d22.N, L2.defScope d22.st, d22.cells, []⟩ σ (L2.defBody d22.st).tail S = rLaw Rc σ S := by kernel_rfl
end Ev.K03
set_option linter.all false
set_option maxRecDepth 100000
set_option maxHeartbeats 4000000
namespace Ev.K03
open PySem

/-! ## what the defs compute -/
def numD : Option Nat → D
  | none => .non
  | some k => .int k
def mdS : Bool → PySem.Str
  | true => "each"
  | false => "whole"
structure Wd where
  m : Bool
  l : Option Nat
  b : Option Nat
  f : Option Nat
  t : Bool
def le3 : Option Nat → Prop
  | none => True
  | some k => k ≤ 3
def Wd.ok (w : Wd) : Prop := le3 w.l ∧ le3 w.b ∧ le3 w.f
def Wd.T (w : Wd) : D := .tup [.str (mdS w.m), numD w.l, numD w.b, numD w.f, .bl w.t]
abbrev wfl : List PySem.Str := ["own_mode", "numbers", "is_late"]
def Wd.I (w : Wd) : D := .ins 0 wfl [.str (mdS w.m), .tup [numD w.l, numD w.b, numD w.f], .bl w.t]
section
variable {n : Nat} {S : Store}
/-! numbers -/
def fromB : D → Bool
  | .int i => decide (0 ≤ i) && decide (i ≤ 3)
  | _ => false
theorem is_from_int (i : Int) : callF GG (ev GG kps (n + 1)) 0 [.d (.int i), .d (.int 0), .d (.int 3)] S = .ok (.d (.bl (decide (0 ≤ i) && decide (i ≤ 3)))) S := by
  rw [f0]
  have c : cCh .LtE .LtE (cV 1) (cV 0) (cV 2) [some (.d (.int i)), some (.d (.int 0)), some (.d (.int 3))] [] = .ok (.d (.bl (decide (0 ≤ i) && decide (i ≤ 3)))) [] := by
    show (match some (decide (0 ≤ i)) with
      | some true => opt ((some (decide (i ≤ 3))).map fun b => RV.d (.bl b)) []
      | some false => .ok (.d (.bl false)) []
      | none => .bad) = _
    cases decide (0 ≤ i) <;> rfl
  have r : r0 (ev GG kps n) [some (.d (.int i)), some (.d (.int 0)), some (.d (.int 3))] [] = .rt (.d (.bl (decide (0 ≤ i) && decide (i ≤ 3)))) [] :=
    bk_rt (rt_ok ((and_t (S1 := []) (v := .d (.bl true)) (by kernel_rfl) rfl).trans ((and_t (S1 := []) (v := .d (.bl true)) (by kernel_rfl) rfl).trans c)))
  show outP GG S (r0 (ev GG kps n) [some (.d (.int i)), some (.d (.int 0)), some (.d (.int 3))] []) = _
  rw [r]
  rfl
theorem is_number_ok (x : Option Nat) (h : le3 x) : callF GG (ev GG kps (n + 2)) 1 [.d (numD x)] S = .ok (.d (.bl true)) S := by
  cases x with
  | none => kernel_rfl
  | some k =>
    have h : k ≤ 3 := h
    rw [f1]
    have c : cFn GG (ev GG kps (n + 1)) 0 3 [false, false, false] [cV 0, cK (.int 0), cK (.int 3)] [some (.d (.int k))] [] = .ok (.d (.bl true)) [] := by
      show callX GG (ev GG kps (n + 1)) 0 3 [.d (.int k), .d (.int 0), .d (.int 3)] [] = _
      rw [y0, is_from_int, decide_eq_true (show (0 : Int) ≤ (k : Int) by omega), decide_eq_true (show (k : Int) ≤ 3 by omega)]
      rfl
    have r : r1 (ev GG kps (n + 1)) [some (.d (.int k))] [] = .rt (.d (.bl true)) [] := bk_rt (rt_ok ((or_f (S1 := []) (v := .d (.bl false)) rfl rfl).trans c))
    show outP GG S (r1 (ev GG kps (n + 1)) [some (.d (.int k))] []) = _
    rw [r]
    rfl
/-- values that are no numbers -/
def odd7 : List D := [.int (-1), .int 4, .bl true, .bl false, .str "1", .tup [], .dct false [] []]
def isMost : Option Nat → Option Nat → Bool
  | _, none => true
  | none, some _ => false
  | some i, some j => decide ((i : Int) ≤ (j : Int))
theorem is_most_ok (x y : Option Nat) : callF GG (ev GG kps (n + 1)) 2 [.d (numD x), .d (numD y)] S = .ok (.d (.bl (isMost x y))) S := by
  cases x <;> cases y <;> kernel_rfl
def grt (x y : Option Nat) : Option Nat := if isMost x y then y else x
theorem greater_ok (x y : Option Nat) : callF GG (ev GG kps (n + 2)) 3 [.d (numD x), .d (numD y)] S = .ok (.d (numD (grt x y))) S := by
  rw [f3]
  have c : tE_ (cFn GG (ev GG kps (n + 1)) 2 2 [false, false] [cV 0, cV 1]) [some (.d (numD x)), some (.d (numD y))] [] = .ok (isMost x y) [] := by
    refine tE_ok (v := .d (.bl (isMost x y))) ?_ rfl
    show callX GG (ev GG kps (n + 1)) 2 2 [.d (numD x), .d (numD y)] [] = _
    rw [y2, is_most_ok]
  have r : r3 (ev GG kps (n + 1)) [some (.d (numD x)), some (.d (numD y))] [] = .rt (.d (numD (grt x y))) [] := by
    refine bk_rt (rt_ok ?_)
    rw [ife_ok c]
    unfold grt
    cases isMost x y <;> rfl
  show outP GG S (r3 (ev GG kps (n + 1)) [some (.d (numD x)), some (.d (numD y))] []) = _
  rw [r]
  cases grt x y <;> rfl
/-! World(..) -/
theorem init_ok (w : Wd) (hw : w.ok) : callF GG (ev GG kps (n + 3)) 4 [.ref 0, .d (.str (mdS w.m)), .d (numD w.l), .d (numD w.b), .d (numD w.f), .d (.bl w.t)] [.ins 0 []] = .ok (.d .non) [.ins 0 [("own_mode", .d (.str (mdS w.m))), ("numbers", .d (.tup [numD w.l, numD w.b, numD w.f])), ("is_late", .d (.bl w.t))]] := by
  rw [f4]
  obtain ⟨m, l, b, f, t⟩ := w
  obtain ⟨h1, h2, h3⟩ := hw
  let σ : Env := [some (.ref 0), some (.d (.str (mdS m))), some (.d (numD l)), some (.d (numD b)), some (.d (numD f)), some (.d (.bl t)), none]
  let S0 : Store := [.ins 0 []]
  have t1 : tBl .Or [tNt (tE_ (cIs GG (.b "str") (cV 1))), tC_ (cCmp .NotIn (cV 1) (cK (.ktup [.str "each", .str "whole"]))), tNt (tE_ (cIs GG (.b "bool") (cV 5)))] σ S0 = .ok false S0 := by
    cases m <;> kernel_rfl
  have num : ∀ x : Option Nat, le3 x → cFn GG (ev GG kps (n + 2)) 1 1 [false] [cV 6] [some (.ref 0), some (.d (.str (mdS m))), some (.d (numD l)), some (.d (numD b)), some (.d (numD f)), some (.d (.bl t)), some (.d (numD x))] S0 = .ok (.d (.bl true)) S0 := fun x hx => by
    show callX GG (ev GG kps (n + 2)) 1 1 [.d (numD x)] S0 = _
    rw [y1, is_number_ok x hx]
  have lc : cLc (wE_ (cTup [.p (cV 2), .p (cV 3), .p (cV 4)])) (.n 6) tTr (cFn GG (ev GG kps (n + 2)) 1 1 [false] [cV 6]) [6] σ S0 = .ok (.own [.bl true, .bl true, .bl true]) S0 := by
    refine lc_ok (xs := [numD l, numD b, numD f]) (fun _ => .bl true) rfl (fun x hx => ⟨_, rfl, rfl, ?_⟩) (show 3 < line by decide)
    simp only [List.mem_cons, List.not_mem_nil, or_false] at hx
    rcases hx with rfl | rfl | rfl
    · exact num l h1
    · exact num b h2
    · exact num f h3
  have t2 : tNt (tE_ (cBi oAll [.p (cLc (wE_ (cTup [.p (cV 2), .p (cV 3), .p (cV 4)])) (.n 6) tTr (cFn GG (ev GG kps (n + 2)) 1 1 [false] [cV 6]) [6])])) σ S0 = .ok false S0 :=
    tN_ok (tE_ok (bi_ok lc rfl rfl (w := .d (.bl true)) rfl) rfl)
  show outI (r4 (ev GG kps (n + 2)) σ S0) = _
  have r : r4 (ev GG kps (n + 2)) σ S0 = .nx σ [.ins 0 [("own_mode", .d (.str (mdS m))), ("numbers", .d (.tup [numD l, numD b, numD f])), ("is_late", .d (.bl t))]] := by
    unfold r4
    rw [bk_nx (if_skip t1), bk_nx (if_skip t2)]
    kernel_rfl
  rw [r]
  rfl
theorem mk_ok (w : Wd) (hw : w.ok) : makeK GG (ev GG kps (n + 3)) kp0 [.d (.str (mdS w.m))] [.d (numD w.l), .d (numD w.b), .d (numD w.f), .d (.bl w.t)] S = .ok (.d w.I) S := by
  show (match callF GG (ev GG kps (n + 3)) 4 [.ref 0, .d (.str (mdS w.m)), .d (numD w.l), .d (numD w.b), .d (numD w.f), .d (.bl w.t)] [.ins 0 []] with
      | .ok v S' => if isDn v then match give GG S' (.w (.ref 0)) with
        | some v' => Out.ok v' S
        | none => .bad
        else .bad
      | .exc x fs _ => .exc x fs S
      | .bad => .bad) = _
  rw [init_ok w hw]
  kernel_rfl
theorem made_ok (w : Wd) (hw : w.ok) : callF GG (ev GG kps (n + 4)) 18 [.d w.T] S = .ok (.d w.I) S := by
  rw [f18]
  have c : cMk GG (ev GG kps (n + 3)) kp0 [false, false, false, false, false] [cSub (cV 0) (cK (.int 0))] [cSub (cV 0) (cK (.int 1)), cSub (cV 0) (cK (.int 2)), cSub (cV 0) (cK (.int 3)), cSub (cV 0) (cK (.int 4))] [some (.d w.T)] [] = .ok (.d w.I) [] := mk_ok w hw
  show outP GG S (r18 (ev GG kps (n + 3)) [some (.d w.T)] []) = _
  have r : r18 (ev GG kps (n + 3)) [some (.d w.T)] [] = .rt (.d w.I) [] := bk_rt (rt_ok c)
  rw [r]
  rfl
/-! fields, properties, methods of an instance -/
theorem at_mode (w : Wd) : attrO GG (ev GG kps (n + 1)) "mode" (.d w.I) S = .ok (.d (.str (mdS w.m))) S := by kernel_rfl
theorem at_lost (w : Wd) : attrO GG (ev GG kps (n + 1)) "lost" (.d w.I) S = .ok (.d (numD w.l)) S := by
  obtain ⟨m, l, b, f, t⟩ := w
  cases l <;> kernel_rfl
theorem at_breaks (w : Wd) : attrO GG (ev GG kps (n + 1)) "breaks" (.d w.I) S = .ok (.d (numD w.b)) S := by
  obtain ⟨m, l, b, f, t⟩ := w
  cases b <;> kernel_rfl
theorem at_fails (w : Wd) : attrO GG (ev GG kps (n + 1)) "fails" (.d w.I) S = .ok (.d (numD w.f)) S := by
  obtain ⟨m, l, b, f, t⟩ := w
  cases f <;> kernel_rfl
theorem at_late (w : Wd) : attrO GG (ev GG kps (n + 1)) "late" (.d w.I) S = .ok (.d (.bl w.t)) S := by kernel_rfl
def Wd.P (w : Wd) : D := .tup [.str (mdS w.m), .tup [numD w.l, numD w.b, numD w.f], .bl w.t]
theorem parts_ok (w : Wd) : callF GG (ev GG kps (n + 1)) 10 [.d w.I] S = .ok (.d w.P) S := by kernel_rfl
/-! equality -/
theorem shp_T (w : Wd) : D.shaped w.T = true := by
  obtain ⟨m, l, b, f, t⟩ := w
  cases m <;> cases l <;> cases b <;> cases f <;> kernel_rfl
theorem shp_P (w : Wd) : D.shaped w.P = true := by
  obtain ⟨m, l, b, f, t⟩ := w
  cases m <;> cases l <;> cases b <;> cases f <;> kernel_rfl
theorem eqv_num (x y : Option Nat) : PyData.eqv (numD x).toPy (numD y).toPy = decide (x = y) := by
  cases x with
  | none => cases y <;> rfl
  | some i =>
    cases y with
    | none => rfl
    | some j =>
      show ((i : Int) == (j : Int)) = _
      by_cases h : i = j
      · subst h
        simp
      · have h2 : ¬ ((i : Int) = (j : Int)) := by omega
        simp [h, h2]
theorem eqv_md (m m' : Bool) : PyData.eqv (.str (mdS m)) (.str (mdS m')) = decide (m = m') := by
  cases m <;> cases m' <;> kernel_rfl
theorem eqv_bl (m m' : Bool) : PyData.eqv (.bool m) (.bool m') = decide (m = m') := by
  cases m <;> cases m' <;> kernel_rfl
def Wd.eq (w u : Wd) : Bool := decide (w.m = u.m) && (decide (w.l = u.l) && (decide (w.b = u.b) && (decide (w.f = u.f) && decide (w.t = u.t))))
theorem eqD_T (w u : Wd) : eqD w.T u.T = some (w.eq u) := by
  unfold eqD
  rw [shp_T, shp_T]
  show some (PyData.eqv (.str (mdS w.m)) (.str (mdS u.m)) && (PyData.eqv (numD w.l).toPy (numD u.l).toPy && (PyData.eqv (numD w.b).toPy (numD u.b).toPy && (PyData.eqv (numD w.f).toPy (numD u.f).toPy && (PyData.eqv (.bool w.t) (.bool u.t) && true))))) = _
  rw [eqv_md, eqv_num, eqv_num, eqv_num, eqv_bl, Bool.and_true]
  rfl
theorem eqD_P (w u : Wd) : eqD w.P u.P = some (w.eq u) := by
  unfold eqD
  rw [shp_P, shp_P]
  show some (PyData.eqv (.str (mdS w.m)) (.str (mdS u.m)) && ((PyData.eqv (numD w.l).toPy (numD u.l).toPy && (PyData.eqv (numD w.b).toPy (numD u.b).toPy && (PyData.eqv (numD w.f).toPy (numD u.f).toPy && true))) && (PyData.eqv (.bool w.t) (.bool u.t) && true))) = _
  rw [eqv_md, eqv_num, eqv_num, eqv_num, eqv_bl]
  unfold Wd.eq
  simp [Bool.and_assoc]
theorem eqD_md (m m' : Bool) : eqD (.str (mdS m)) (.str (mdS m')) = some (decide (m = m')) := by
  cases m <;> cases m' <;> kernel_rfl
theorem own_eq (w u : Wd) : callF GG (ev GG kps (n + 2)) 11 [.d w.I, .d u.I] S = .ok (.d (.bl (w.eq u))) S := by
  rw [f11]
  have c : cEq GG (ev GG kps (n + 1)) (cMt GG (ev GG kps (n + 1)) "parts" 0 (cV 0) []) (cMt GG (ev GG kps (n + 1)) "parts" 0 (cV 1) []) [some (.d w.I), some (.d u.I)] [] = .ok (.d (.bl (w.eq u))) [] := by
    have p1 : ∀ (z : Wd) (i : Nat), cV i [some (.d w.I), some (.d u.I)] [] = .ok (.d z.I) [] → cMt GG (ev GG kps (n + 1)) "parts" 0 (cV i) [] [some (.d w.I), some (.d u.I)] [] = .ok (.d z.P) [] := fun z i hz => by
      unfold cMt
      rw [hz, bind_ok]
      kernel_rfl
    unfold cEq
    rw [p1 w 0 rfl, bind_ok, p1 u 1 rfl, bind_ok]
    show opt ((eqD w.P u.P).map fun b => RV.d (.bl b)) [] = _
    rw [eqD_P]
    rfl
  have r : r11 (ev GG kps (n + 1)) [some (.d w.I), some (.d u.I)] [] = .rt (.d (.bl (w.eq u))) [] := bk_rt (rt_ok ((and_t (S1 := []) (v := .d (.bl true)) (by kernel_rfl) rfl).trans c))
  show outP GG S (r11 (ev GG kps (n + 1)) [some (.d w.I), some (.d u.I)] []) = _
  rw [r]
  rfl
/-- against a tuple -/
theorem own_eqT (w u : Wd) : callF GG (ev GG kps (n + 2)) 11 [.d w.I, .d u.T] S = .ok (.d (.bl false)) S := by kernel_rfl
theorem eqF_I (w u : Wd) : eqF GG (ev GG kps (n + 2)) (.d w.I) (.d u.I) S = .ok (.d (.bl (w.eq u))) S := by
  show noX (callX GG (ev GG kps (n + 2)) 11 2 [.d w.I, .d u.I] S) = _
  rw [y11, own_eq]
  rfl
theorem eqF_IT (w u : Wd) : eqF GG (ev GG kps (n + 2)) (.d w.I) (.d u.T) S = .ok (.d (.bl false)) S := by
  show noX (callX GG (ev GG kps (n + 2)) 11 2 [.d w.I, .d u.T] S) = _
  rw [y11, own_eqT]
  rfl
theorem eqF_TT (w u : Wd) : eqF GG (ev GG kps (n + 2)) (.d w.T) (.d u.T) S = .ok (.d (.bl (w.eq u))) S := by
  show opt ((eqD w.T u.T).map fun b => RV.d (.bl b)) S = _
  rw [eqD_T]
  rfl
/-! is_milder -/
def Wd.mil (w u : Wd) : Bool := decide (w.m = u.m) && (!w.t || u.t) && (isMost w.l u.l && (isMost w.b u.b && isMost w.f u.f))
theorem milder_ok (w u : Wd) : callF GG (ev GG kps (n + 2)) 12 [.d w.I, .d u.I] S = .ok (.d (.bl (w.mil u))) S := by
  rw [f12]
  let σ : Env := [some (.d w.I), some (.d u.I), none, none]
  have lc : cLc (wZp [.p (cAt GG (ev GG kps (n + 1)) "numbers" (cV 0)), .p (cAt GG (ev GG kps (n + 1)) "numbers" (cV 1))]) (.t [.n 2, .n 3]) tTr (cFn GG (ev GG kps (n + 1)) 2 2 [false, false] [cV 2, cV 3]) [2, 3] σ [] = .ok (.own [.bl (isMost w.l u.l), .bl (isMost w.b u.b), .bl (isMost w.f u.f)]) [] := by
    have key : ∀ x y : Option Nat, ∃ σ1, CG.go (.t [.n 2, .n 3]) (.tup [numD x, numD y]) (wipeE σ [2, 3]) = some σ1 ∧ tTr σ1 [] = .ok true [] ∧ cFn GG (ev GG kps (n + 1)) 2 2 [false, false] [cV 2, cV 3] σ1 [] = .ok (.d (.bl (isMost x y))) [] := fun x y => by
      refine ⟨_, rfl, rfl, ?_⟩
      show callX GG (ev GG kps (n + 1)) 2 2 [.d (numD x), .d (numD y)] [] = _
      rw [y2, is_most_ok]
    have hi : wZp [.p (cAt GG (ev GG kps (n + 1)) "numbers" (cV 0)), .p (cAt GG (ev GG kps (n + 1)) "numbers" (cV 1))] σ [] = .ok (.fix [.tup [numD w.l, numD u.l], .tup [numD w.b, numD u.b], .tup [numD w.f, numD u.f]]) [] := by kernel_rfl
    unfold cLc
    rw [hi, bind_ok]
    obtain ⟨σ1, a1, a2, a3⟩ := key w.l u.l
    obtain ⟨σ2, b1, b2, b3⟩ := key w.b u.b
    obtain ⟨σ3, c1, c2, c3⟩ := key w.f u.f
    show lcS _ _ _ _ _ 4 0 [] [] = _
    simp only [lcS, curOf, List.getElem?_cons_zero, List.getElem?_cons_succ, a1, a2, a3, b1, b2, b3, c1, c2, c3]
    rfl
  have t1 : tBl .Or [tC_ (cCmp .NotEq (cAt GG (ev GG kps (n + 1)) "own_mode" (cV 0)) (cAt GG (ev GG kps (n + 1)) "own_mode" (cV 1))), tBl .And [tE_ (cAt GG (ev GG kps (n + 1)) "is_late" (cV 0)), tNt (tE_ (cAt GG (ev GG kps (n + 1)) "is_late" (cV 1)))]] σ [] = .ok (!(decide (w.m = u.m) && (!w.t || u.t))) [] := by
    obtain ⟨m, l, b, f, t⟩ := w
    obtain ⟨m', l', b', f', t'⟩ := u
    cases m <;> cases m' <;> cases t <;> cases t' <;> kernel_rfl
  have e : cBi oAll [.p (cLc (wZp [.p (cAt GG (ev GG kps (n + 1)) "numbers" (cV 0)), .p (cAt GG (ev GG kps (n + 1)) "numbers" (cV 1))]) (.t [.n 2, .n 3]) tTr (cFn GG (ev GG kps (n + 1)) 2 2 [false, false] [cV 2, cV 3]) [2, 3])] σ [] = .ok (.d (.bl (isMost w.l u.l && (isMost w.b u.b && isMost w.f u.f)))) [] := by
    refine bi_ok lc rfl rfl ?_
    show some (RV.d (.bl (isMost w.l u.l && (isMost w.b u.b && (isMost w.f u.f && true))))) = _
    rw [Bool.and_true]
  have r : r12 (ev GG kps (n + 1)) σ [] = .rt (.d (.bl (w.mil u))) [] := by
    unfold r12
    unfold Wd.mil
    cases hk : (decide (w.m = u.m) && (!w.t || u.t)) with
    | true =>
      rw [hk] at t1
      rw [bk_nx (if_skip t1), bk_rt (rt_ok e)]
      rfl
    | false =>
      rw [hk] at t1
      rw [bk_rt ((if_yes t1).trans (bk_rt (rt_ok (v := .d (.bl false)) rfl)))]
      rfl
  show outP GG S (r12 (ev GG kps (n + 1)) σ []) = _
  rw [r]
  rfl
end
end Ev.K03
set_option linter.all false
set_option maxRecDepth 100000
set_option maxHeartbeats 4000000
namespace Ev.K03
open PySem
section
variable {n : Nat} {S : Store}
theorem grt_le {x y : Option Nat} (hx : le3 x) (hy : le3 y) : le3 (grt x y) := by
  unfold grt
  split
  · exact hy
  · exact hx
def Wd.or (w u : Wd) : Wd := ⟨w.m, grt w.l u.l, grt w.b u.b, grt w.f u.f, w.t || u.t⟩
theorem or_okW {w u : Wd} (hw : w.ok) (hu : u.ok) : (w.or u).ok := ⟨grt_le hw.1 hu.1, grt_le hw.2.1 hu.2.1, grt_le hw.2.2 hu.2.2⟩
theorem or_ne (w u : Wd) (h : w.m ≠ u.m) : callF GG (ev GG kps (n + 2)) 13 [.d w.I, .d u.I] S = .exc 2 [] S := by
  obtain ⟨m, l, b, f, t⟩ := w
  obtain ⟨m', l', b', f', t'⟩ := u
  cases m <;> cases m' <;> first | exact absurd rfl h | kernel_rfl
theorem or_eq (w u : Wd) (hw : w.ok) (hu : u.ok) (h : w.m = u.m) : callF GG (ev GG kps (n + 4)) 13 [.d w.I, .d u.I] S = .ok (.d (w.or u).I) S := by
  rw [f13]
  let σ : Env := [some (.d w.I), some (.d u.I), none, none, none, none, none]
  have t1 : tC_ (cCmp .NotEq (cAt GG (ev GG kps (n + 3)) "own_mode" (cV 0)) (cAt GG (ev GG kps (n + 3)) "own_mode" (cV 1))) σ [] = .ok false [] := by
    obtain ⟨m, l, b, f, t⟩ := w
    obtain ⟨m', l', b', f', t'⟩ := u
    have h : m = m' := h
    subst h
    cases m <;> kernel_rfl
  have lc : cLc (wZp [.p (cAt GG (ev GG kps (n + 3)) "numbers" (cV 0)), .p (cAt GG (ev GG kps (n + 3)) "numbers" (cV 1))]) (.t [.n 5, .n 6]) tTr (cFn GG (ev GG kps (n + 3)) 3 2 [false, false] [cV 5, cV 6]) [5, 6] σ [] = .ok (.own [numD (grt w.l u.l), numD (grt w.b u.b), numD (grt w.f u.f)]) [] := by
    have key : ∀ x y : Option Nat, ∃ σ1, CG.go (.t [.n 5, .n 6]) (.tup [numD x, numD y]) (wipeE σ [5, 6]) = some σ1 ∧ tTr σ1 [] = .ok true [] ∧ cFn GG (ev GG kps (n + 3)) 3 2 [false, false] [cV 5, cV 6] σ1 [] = .ok (.d (numD (grt x y))) [] := fun x y => by
      refine ⟨_, rfl, rfl, ?_⟩
      show callX GG (ev GG kps (n + 3)) 3 2 [.d (numD x), .d (numD y)] [] = _
      rw [y3, greater_ok]
    have hi : wZp [.p (cAt GG (ev GG kps (n + 3)) "numbers" (cV 0)), .p (cAt GG (ev GG kps (n + 3)) "numbers" (cV 1))] σ [] = .ok (.fix [.tup [numD w.l, numD u.l], .tup [numD w.b, numD u.b], .tup [numD w.f, numD u.f]]) [] := by kernel_rfl
    unfold cLc
    rw [hi, bind_ok]
    obtain ⟨σ1, a1, a2, a3⟩ := key w.l u.l
    obtain ⟨σ2, b1, b2, b3⟩ := key w.b u.b
    obtain ⟨σ3, c1, c2, c3⟩ := key w.f u.f
    show lcS _ _ _ _ _ 4 0 [] [] = _
    simp only [lcS, curOf, List.getElem?_cons_zero, List.getElem?_cons_succ, a1, a2, a3, b1, b2, b3, c1, c2, c3]
    rfl
  have s2 : sTg (.t [.n 2, .n 3, .n 4]) (cLc (wZp [.p (cAt GG (ev GG kps (n + 3)) "numbers" (cV 0)), .p (cAt GG (ev GG kps (n + 3)) "numbers" (cV 1))]) (.t [.n 5, .n 6]) tTr (cFn GG (ev GG kps (n + 3)) 3 2 [false, false] [cV 5, cV 6]) [5, 6]) σ [] = .nx [some (.d w.I), some (.d u.I), some (.d (numD (grt w.l u.l))), some (.d (numD (grt w.b u.b))), some (.d (numD (grt w.f u.f))), none, none] [] := by
    unfold sTg
    rw [lc]
    rfl
  have ee : cMk GG (ev GG kps (n + 3)) kp0 [false, false, false, false, false] [cAt GG (ev GG kps (n + 3)) "own_mode" (cV 0)] [cV 2, cV 3, cV 4, cBl .Or [cAt GG (ev GG kps (n + 3)) "is_late" (cV 0), cAt GG (ev GG kps (n + 3)) "is_late" (cV 1)]] [some (.d w.I), some (.d u.I), some (.d (numD (grt w.l u.l))), some (.d (numD (grt w.b u.b))), some (.d (numD (grt w.f u.f))), none, none] [] = .ok (.d (w.or u).I) [] := by
    have a1 : cAK [false, false, false, false, false] [cAt GG (ev GG kps (n + 3)) "own_mode" (cV 0)] [some (.d w.I), some (.d u.I), some (.d (numD (grt w.l u.l))), some (.d (numD (grt w.b u.b))), some (.d (numD (grt w.f u.f))), none, none] [] = .ok [.d (.str (mdS w.m))] [] := by kernel_rfl
    have a2 : cAK [] [cV 2, cV 3, cV 4, cBl .Or [cAt GG (ev GG kps (n + 3)) "is_late" (cV 0), cAt GG (ev GG kps (n + 3)) "is_late" (cV 1)]] [some (.d w.I), some (.d u.I), some (.d (numD (grt w.l u.l))), some (.d (numD (grt w.b u.b))), some (.d (numD (grt w.f u.f))), none, none] [] = .ok [.d (numD (grt w.l u.l)), .d (numD (grt w.b u.b)), .d (numD (grt w.f u.f)), .d (.bl (w.t || u.t))] [] := by
      obtain ⟨m, l, b, f, t⟩ := w
      cases t <;> kernel_rfl
    unfold cMk
    rw [a1, bind_ok, a2, bind_ok]
    exact mk_ok (w.or u) (or_okW hw hu)
  show outP GG S (r13 (ev GG kps (n + 3)) σ []) = _
  have r : r13 (ev GG kps (n + 3)) σ [] = .rt (.d (w.or u).I) [] := by
    unfold r13
    rw [bk_nx (if_skip t1), bk_nx s2, bk_rt (rt_ok ee)]
  rw [r]
  rfl
def joinD (w u : Wd) : D := if w.m = u.m then (w.or u).I else .non
theorem joined_ok (w u : Wd) (hw : w.ok) (hu : u.ok) : callF GG (ev GG kps (n + 5)) 21 [.d w.I, .d u.I] S = .ok (.d (joinD w u)) S := by
  rw [f21]
  let σ : Env := [some (.d w.I), some (.d u.I), none]
  let σ1 : Env := [some (.d w.I), some (.d u.I), some (.d .non)]
  show outP GG S (r21 (ev GG kps (n + 4)) σ []) = _
  have o : cOr GG (ev GG kps (n + 4)) (cV 0) (cV 1) σ1 [] = callF GG (ev GG kps (n + 4)) 13 [.d w.I, .d u.I] [] := by
    show callX GG (ev GG kps (n + 4)) 13 2 [.d w.I, .d u.I] [] = _
    rw [y13]
  have r : r21 (ev GG kps (n + 4)) σ [] = .rt (.d (joinD w u)) [] := by
    unfold r21
    rw [bk_nx (st_ok (v := .d .non) (S' := []) rfl)]
    show sBk _ σ1 [] = _
    unfold joinD
    by_cases h : w.m = u.m
    · rw [if_pos h]
      rw [or_eq w u hw hu h] at o
      have b : sTy GG (sBk [sSt 2 false (cOr GG (ev GG kps (n + 4)) (cV 0) (cV 1))]) [⟨2, none, 2, false, fun xi fs => (some .non).map RV.d⟩] σ1 [] = .nx [some (.d w.I), some (.d u.I), some (.d (w.or u).I)] [] := by
        unfold sTy
        rw [bk_nx (st_ok o)]
        rfl
      rw [bk_nx b]
      rfl
    · rw [if_neg h]
      rw [or_ne w u h] at o
      have s : sSt 2 false (cOr GG (ev GG kps (n + 4)) (cV 0) (cV 1)) σ1 [] = .exc 2 [] σ1 [] := by
        unfold sSt
        rw [o]
        rfl
      have b : sTy GG (sBk [sSt 2 false (cOr GG (ev GG kps (n + 4)) (cV 0) (cV 1))]) [⟨2, none, 2, false, fun xi fs => (some .non).map RV.d⟩] σ1 [] = .nx σ1 [] := by
        unfold sTy
        rw [bk_exc s]
        kernel_rfl
      rw [bk_nx b]
      rfl
  rw [r]
  show (match give GG [] (.d (joinD w u)) with | some v' => Out.ok v' S | none => .bad) = _
  rfl
def nine : Option Nat → Nat
  | none => 9
  | some k => k
theorem number_ok (x : Option Nat) : callF GG (ev GG kps (n + 1)) 19 [.d (numD x)] S = .ok (.d (.int (nine x))) S := by
  cases x <;> kernel_rfl
theorem refused_yes : ∀ x ∈ odd7, ∀ p ∈ ([.int 0, .int 1, .int 2] : List D), callF GG (ev GG kps (n + 4)) 20 [.d (.str "each"), .d x, .d (.bl false), .d p] S = .ok (.d (.bl true)) S := by
  intro x hx p hp
  simp only [odd7, List.mem_cons, List.not_mem_nil, or_false] at hx hp
  rcases hx with rfl | rfl | rfl | rfl | rfl | rfl | rfl <;> rcases hp with rfl | rfl | rfl <;> kernel_rfl
theorem refused_n1 : callF GG (ev GG kps (n + 4)) 20 [.d (.str "whole"), .d .non, .d (.bl true), .d (.int 0)] S = .ok (.d (.bl false)) S := by kernel_rfl
theorem refused_n2 : callF GG (ev GG kps (n + 4)) 20 [.d (.str "each"), .d (.int 3), .d (.bl false), .d (.int 2)] S = .ok (.d (.bl false)) S := by kernel_rfl
theorem refused_md : ∀ x ∈ ([.str "", .str "both", .non, .int 1] : List D), callF GG (ev GG kps (n + 4)) 20 [.d x, .d (.int 0), .d (.bl false), .d (.int 0)] S = .ok (.d (.bl true)) S := by
  intro x hx
  simp only [List.mem_cons, List.not_mem_nil, or_false] at hx
  rcases hx with rfl | rfl | rfl | rfl <;> kernel_rfl
theorem refused_sl : ∀ x ∈ ([.int 1, .int 0, .non, .str "x"] : List D), callF GG (ev GG kps (n + 4)) 20 [.d (.str "each"), .d (.int 0), .d x, .d (.int 1)] S = .ok (.d (.bl true)) S := by
  intro x hx
  simp only [List.mem_cons, List.not_mem_nil, or_false] at hx
  rcases hx with rfl | rfl | rfl | rfl <;> kernel_rfl
/-! _law_alike -/
theorem alike_num (x : Option Nat) (h : le3 x) : callF GG (ev GG kps (n + 1)) 16 [.d (numD x), .d (numD x)] S = .ok (.d (.bl true)) S := by
  match x, h with
  | none, _ => kernel_rfl
  | some 0, _ => kernel_rfl
  | some 1, _ => kernel_rfl
  | some 2, _ => kernel_rfl
  | some 3, _ => kernel_rfl
  | some (k + 4), h => exact absurd (show k + 4 ≤ 3 from h) (by omega)
theorem alike_md (m : Bool) : callF GG (ev GG kps (n + 1)) 16 [.d (.str (mdS m)), .d (.str (mdS m))] S = .ok (.d (.bl true)) S := by
  cases m <;> kernel_rfl
theorem alike_bl (m : Bool) : callF GG (ev GG kps (n + 1)) 16 [.d (.bl m), .d (.bl m)] S = .ok (.d (.bl true)) S := by
  cases m <;> kernel_rfl
theorem alike_T (w : Wd) (hw : w.ok) : callF GG (ev GG kps (n + 2)) 16 [.d w.T, .d w.T] S = .ok (.d (.bl true)) S := by
  rw [f16, if_pos (show pureW [.d w.T, .d w.T] = true from rfl)]
  let σ : Env := [some (.d w.T), some (.d w.T), none]
  have lc : cLc (wRg [.p (cBi oLen [.p (cV 1)])]) (.n 2) (tNt (tE_ (cFn GG (ev GG kps (n + 1)) 16 2 [false, false] [cSub (cV 0) (cV 2), cSub (cV 1) (cV 2)]))) (cV 2) [2] σ [] = .ok (.own []) [] := by
    have := lcf_ok (it := wRg [.p (cBi oLen [.p (cV 1)])]) (tg := .n 2) (T := tNt (tE_ (cFn GG (ev GG kps (n + 1)) 16 2 [false, false] [cSub (cV 0) (cV 2), cSub (cV 1) (cV 2)]))) (E := cV 2) (wp := [2]) (σ := σ) (S := []) (xs := [.int 0, .int 1, .int 2, .int 3, .int 4]) (S1 := []) (fun _ => false) id (by kernel_rfl) (fun x hx => ⟨_, rfl, ?_, fun h => Bool.noConfusion h⟩) (show 5 < line by decide)
    · simpa using this
    · refine tN_ok (k := true) (tE_ok (v := .d (.bl true)) ?_ rfl)
      simp only [List.mem_cons, List.not_mem_nil, or_false] at hx
      rcases hx with rfl | rfl | rfl | rfl | rfl
      · show callX GG (ev GG kps (n + 1)) 16 2 [.d (.str (mdS w.m)), .d (.str (mdS w.m))] [] = _
        rw [y16, alike_md]
      · show callX GG (ev GG kps (n + 1)) 16 2 [.d (numD w.l), .d (numD w.l)] [] = _
        rw [y16, alike_num _ hw.1]
      · show callX GG (ev GG kps (n + 1)) 16 2 [.d (numD w.b), .d (numD w.b)] [] = _
        rw [y16, alike_num _ hw.2.1]
      · show callX GG (ev GG kps (n + 1)) 16 2 [.d (numD w.f), .d (numD w.f)] [] = _
        rw [y16, alike_num _ hw.2.2]
      · show callX GG (ev GG kps (n + 1)) 16 2 [.d (.bl w.t), .d (.bl w.t)] [] = _
        rw [y16, alike_bl]
  have e : cEq GG (ev GG kps (n + 1)) (cLc (wRg [.p (cBi oLen [.p (cV 1)])]) (.n 2) (tNt (tE_ (cFn GG (ev GG kps (n + 1)) 16 2 [false, false] [cSub (cV 0) (cV 2), cSub (cV 1) (cV 2)]))) (cV 2) [2]) (cLst []) σ [] = .ok (.d (.bl true)) [] := by
    unfold cEq
    rw [lc, bind_ok]
    kernel_rfl
  have r : r16 (ev GG kps (n + 1)) σ [] = .rt (.d (.bl true)) [] := by
    unfold r16
    rw [bk_nx (if_skip (S' := []) (by kernel_rfl))]
    refine bk_rt ((if_yes (S' := []) (by kernel_rfl)).trans ?_)
    rw [bk_nx (if_skip (S' := []) (by kernel_rfl)), bk_nx (if_skip (S' := []) (by kernel_rfl)), bk_rt (rt_ok e)]
  have r' : r16 (ev GG kps (n + 1)) [some (.d w.T), some (.d w.T), none] [] = .rt (.d (.bl true)) [] := r
  rw [r']
  rfl
end
end Ev.K03
set_option linter.all false
set_option maxRecDepth 100000
set_option maxHeartbeats 4000000
namespace Ev.K03
open PySem
/-! ## the law's statements -/
def l0_0 (Rc : Rec) : CS := sTg (.t [.n 10, .n 11]) (cTup [.p (cFn GG Rc 17 1 [false] [cV 1]), .p (cFn GG Rc 17 1 [false] [cV 1])])
def l0_1 (Rc : Rec) : CS := sP2 12 13 [false, false] [cFn GG Rc 18 1 [false] [cV 10], cFn GG Rc 18 1 [false] [cV 11]]
def l0_2 (Rc : Rec) : CS := sIf (tNt (tE_ (cFn GG Rc 16 2 [false, false] [cTup [.p (cAt GG Rc ("mode" : PySem.Str) (cV 12)), .p (cAt GG Rc ("lost" : PySem.Str) (cV 12)), .p (cAt GG Rc ("breaks" : PySem.Str) (cV 12)), .p (cAt GG Rc ("fails" : PySem.Str) (cV 12)), .p (cAt GG Rc ("late" : PySem.Str) (cV 12))], cV 10]))) (sBk [sRt (cK (.bl false))]) (sBk [])
def l0_3 (Rc : Rec) : CS := sIf (tBl .Or [tC_ (cCmp .NotEq (cEq GG Rc (cV 12) (cV 13)) (cEq GG Rc (cV 10) (cV 11))), tC_ (cEq GG Rc (cV 12) (cV 10))]) (sBk [sRt (cK (.bl false))]) (sBk [])
def l0_4 (Rc : Rec) : CS := sSt 5 false (cLc (wE_ (cTup [.p (cK (.int 1)), .p (cK (.int 2)), .p (cK (.int 3))])) (.n 17) tTr (cTup [.p (cFn GG Rc 19 1 [false] [cSub (cV 10) (cV 17)]), .p (cFn GG Rc 19 1 [false] [cSub (cV 11) (cV 17)])]) [17])
def l0_5 (Rc : Rec) : CS := sSt 6 false (cBl .And [cEq GG Rc (cSub (cV 10) (cK (.int 0))) (cSub (cV 11) (cK (.int 0))), cEq GG Rc (cLc (wE_ (cV 5)) (.n 19) (tC_ (cCmp .Gt (cSub (cV 19) (cK (.int 0))) (cSub (cV 19) (cK (.int 1))))) (cV 19) [19]) (cLst [])])
def l0_6 (Rc : Rec) : CS := sIf (tBl .Or [tNt (tE_ (cFn GG Rc 16 2 [false, false] [cMt GG Rc ("is_milder" : PySem.Str) 1 (cV 12) [cV 13], cBl .And [cV 6, cBl .Or [cSub (cV 11) (cK (.int 4)), cNot (cSub (cV 10) (cK (.int 4)))]]])), tNt (tE_ (cMt GG Rc ("is_milder" : PySem.Str) 1 (cV 12) [cV 12]))]) (sBk [sRt (cK (.bl false))]) (sBk [])
def l0_7 (Rc : Rec) : CS := sSt 7 false (cFn GG Rc 21 2 [false, false] [cV 12, cV 13])
def l0_8 (Rc : Rec) : CS := sIf (tC_ (cCmp .NotEq (cCmp .Is (cV 7) (cK .non)) (cCmp .NotEq (cSub (cV 10) (cK (.int 0))) (cSub (cV 11) (cK (.int 0)))))) (sBk [sRt (cK (.bl false))]) (sBk [])
def l0_9 (Rc : Rec) : CS := sIf (tC_ (cCmp .IsNot (cV 7) (cK .non))) (sBk [sSt 14 false (cLc (wE_ (cV 5)) (.n 19) tTr (cIf (tC_ (cEq GG Rc (cBi oMax [.p (cV 19)]) (cK (.int 9)))) (cK .non) (cBi oMax [.p (cV 19)])) [19]),
  sSt 15 false (cBin .Add (cBin .Add (cTup [.p (cSub (cV 10) (cK (.int 0)))]) (cBi oTup [.p (cV 14)])) (cTup [.p (cBl .Or [cSub (cV 10) (cK (.int 4)), cSub (cV 11) (cK (.int 4))])])),
  sIf (tNt (tE_ (cFn GG Rc 16 2 [false, false] [cTup [.p (cAt GG Rc ("mode" : PySem.Str) (cV 7)), .p (cAt GG Rc ("lost" : PySem.Str) (cV 7)), .p (cAt GG Rc ("breaks" : PySem.Str) (cV 7)), .p (cAt GG Rc ("fails" : PySem.Str) (cV 7)), .p (cAt GG Rc ("late" : PySem.Str) (cV 7))], cV 15]))) (sBk [sRt (cK (.bl false))]) (sBk [])]) (sBk [])
def l0_10 (Rc : Rec) : CS := sSt 8 false (cFn GG Rc 15 2 [true, false] [cV 1, cK (.int 3)])
def l0_11 (Rc : Rec) : CS := sSt 9 false (cSub (cLst [.p (cNeg (cK (.int 1))), .p (cK (.int 4)), .p (cK (.bl true)), .p (cK (.bl false)), .p (cK (.str ("1" : PySem.Str))), .p (cTup []), .p (cDic)]) (cFn GG Rc 15 2 [true, false] [cV 1, cK (.int 7)]))
def l0_12 (Rc : Rec) : CS := sIf (tNt (tE_ (cFn GG Rc 20 4 [false, false, false, false] [cK (.str ("each" : PySem.Str)), cV 9, cK (.bl false), cV 8]))) (sBk [sRt (cK (.bl false))]) (sBk [])
def l0 (Rc : Rec) : CS := sFr (wRg [.p (cK (.int 8))]) (.n 2) (sBk [l0_0 Rc, l0_1 Rc, l0_2 Rc, l0_3 Rc, l0_4 Rc, l0_5 Rc, l0_6 Rc, l0_7 Rc, l0_8 Rc, l0_9 Rc, l0_10 Rc, l0_11 Rc, l0_12 Rc])
def l1 (Rc : Rec) : CS := sIf (tBl .Or [tE_ (cFn GG Rc 20 4 [false, false, false, false] [cK (.str ("whole" : PySem.Str)), cK .non, cK (.bl true), cK (.int 0)]), tE_ (cFn GG Rc 20 4 [false, false, false, false] [cK (.str ("each" : PySem.Str)), cK (.int 3), cK (.bl false), cK (.int 2)])]) (sBk [sRt (cK (.bl false))]) (sBk [])
def l2 (Rc : Rec) : CS := sSt 3 false (cLc (wE_ (cLst [.p (cK (.str ("" : PySem.Str))), .p (cK (.str ("both" : PySem.Str))), .p (cK .non), .p (cK (.int 1))])) (.n 16) tTr (cFn GG Rc 20 4 [false, false, false, false] [cV 16, cK (.int 0), cK (.bl false), cK (.int 0)]) [16])
def l3 (Rc : Rec) : CS := sSt 3 false (cBin .Add (cV 3) (cLc (wE_ (cLst [.p (cK (.int 1)), .p (cK (.int 0)), .p (cK .non), .p (cK (.str ("x" : PySem.Str)))])) (.n 18) tTr (cFn GG Rc 20 4 [false, false, false, false] [cK (.str ("each" : PySem.Str)), cK (.int 0), cV 18, cK (.int 1)]) [18]))
def l4 (Rc : Rec) : CS := sSt 4 false (cMk GG Rc kp1 [false, false, false, false, false] [] [])
def l5 (Rc : Rec) : CS := sIf (tC_ (cCmp .NotEq (cTup [.p (cAt GG Rc ("mode" : PySem.Str) (cV 4)), .p (cAt GG Rc ("lost" : PySem.Str) (cV 4)), .p (cAt GG Rc ("breaks" : PySem.Str) (cV 4)), .p (cAt GG Rc ("fails" : PySem.Str) (cV 4)), .p (cAt GG Rc ("late" : PySem.Str) (cV 4))]) (cTup [.p (cK (.str ("each" : PySem.Str))), .p (cK (.int 0)), .p (cK (.int 0)), .p (cK .non), .p (cK (.bl false))]))) (sBk [sRt (cK (.bl false))]) (sBk [])
def l6 (Rc : Rec) : CS := sRt (cEq GG Rc (cV 3) (cBin .Mult (cLst [.p (cK (.bl true))]) (cK (.int 8))))
theorem rLaw_eq (Rc : Rec) : rLaw Rc = sBk [l0 Rc, l1 Rc, l2 Rc, l3 Rc, l4 Rc, l5 Rc, l6 Rc] := rfl
abbrev R5 : Rec := ev GG kps 5
section
variable {S : Store} {σ : Env}
theorem draw_ok {n i : Nat} {cap : Int} (hi : σ[i]? = some (some (.ref 0))) (h0 : 0 < cap) (h1 : cap < 1073741824) (hS : IsH S) : ∃ (r : Int) (S' : Store), 0 ≤ r ∧ r < cap ∧ IsH S' ∧ cFn GG (ev GG kps (n + 1)) 15 2 [true, false] [cV i, cK (.int cap)] σ S = .ok (.d (.int r)) S' := by
  obtain ⟨st, idx, cells, hl, rfl⟩ := hS
  obtain ⟨r, st', idx', cells', r0, r1, hl', e⟩ := next_ok (st := st) (idx := idx) (cap := cap) (cells := cells) h0 h1 hl
  refine ⟨r, _, r0, r1, ⟨st', idx', cells', hl', rfl⟩, ?_⟩
  have a : cAK [true, false] [cV i, cK (.int cap)] σ (stH st idx cells) = .ok [.ref 0, .d (.int cap)] (stH st idx cells) := by
    show ((vr i σ (stH st idx cells)).bind _) = _
    unfold vr
    rw [hi]
    rfl
  unfold cFn
  rw [a, bind_ok, y15, f15, if_neg (show ¬ (pureW [.ref 0, .d (.int cap)] = true) from Bool.false_ne_true)]
  exact e
theorem eq0 {n : Nat} {r : Int} : eqF GG (ev GG kps n) (.d (.int r)) (.d (.int 0)) S = .ok (.d (.bl (r == 0))) S := by kernel_rfl
theorem world_ok {n : Nat} (hS : IsH S) : ∃ (w : Wd) (S' : Store), w.ok ∧ IsH S' ∧ callF GG (ev GG kps (n + 2)) 17 [.ref 0] S = .ok (.d w.T) S' := by
  rw [f17, if_neg (by decide)]
  obtain ⟨r1, S1, a1, b1, hS1, e1⟩ := draw_ok (n := n) (i := 0) (cap := 5) (σ := [some (.ref 0), none, none, none]) rfl (by decide) (by decide) hS
  obtain ⟨dl, hl, p1⟩ := pick_ok (es := [.p (cK (.int 0)), .p (cK (.int 1)), .p (cK (.int 1)), .p (cK (.int 2)), .p (cK .non)]) (ds := [.int 0, .int 1, .int 1, .int 2, .non]) rfl e1 a1 b1 (show 5 ≤ line by decide)
  obtain ⟨r2, S2, a2, b2, hS2, e2⟩ := draw_ok (n := n) (i := 0) (cap := 4) (σ := [some (.ref 0), none, none, none]) rfl (by decide) (by decide) hS1
  obtain ⟨df, hf, p2⟩ := pick_ok (es := [.p (cK (.int 0)), .p (cK (.int 1)), .p (cK .non), .p (cK .non)]) (ds := [.int 0, .int 1, .non, .non]) rfl e2 a2 b2 (show 4 ≤ line by decide)
  obtain ⟨r3, S3, a3, b3, hS3, e3⟩ := draw_ok (n := n) (i := 0) (cap := 4) (σ := [some (.ref 0), none, some (.d dl), some (.d df)]) rfl (by decide) (by decide) hS2
  obtain ⟨db, hb, p3⟩ := pick_ok (es := [.p (cK (.int 0)), .p (cK (.int 0)), .p (cK (.int 1)), .p (cK .non)]) (ds := [.int 0, .int 0, .int 1, .non]) rfl e3 a3 b3 (show 4 ≤ line by decide)
  obtain ⟨r4, S4, a4, b4, hS4, e4⟩ := draw_ok (n := n) (i := 0) (cap := 3) (σ := [some (.ref 0), some (.d db), some (.d dl), some (.d df)]) rfl (by decide) (by decide) hS3
  obtain ⟨dm, hm, p4⟩ := pick_ok (es := [.p (cK (.str "each")), .p (cK (.str "each")), .p (cK (.str "whole"))]) (ds := [.str "each", .str "each", .str "whole"]) rfl e4 a4 b4 (show 3 ≤ line by decide)
  obtain ⟨r5, S5, a5, b5, hS5, e5⟩ := draw_ok (n := n) (i := 0) (cap := 4) (σ := [some (.ref 0), some (.d db), some (.d dl), some (.d df)]) rfl (by decide) (by decide) hS4
  have num : ∀ d : D, (d = .int 0 ∨ d = .int 1 ∨ d = .int 2 ∨ d = .non) → ∃ x, le3 x ∧ d = numD x := fun d h => by
    rcases h with rfl | rfl | rfl | rfl
    · exact ⟨some 0, show 0 ≤ 3 by decide, rfl⟩
    · exact ⟨some 1, show 1 ≤ 3 by decide, rfl⟩
    · exact ⟨some 2, show 2 ≤ 3 by decide, rfl⟩
    · exact ⟨none, trivial, rfl⟩
  simp only [List.mem_cons, List.not_mem_nil, or_false] at hl hf hb hm
  obtain ⟨l, l3, rfl⟩ := num dl (by rcases hl with h | h | h | h | h <;> simp [h])
  obtain ⟨f, f3, rfl⟩ := num df (by rcases hf with h | h | h | h <;> simp [h])
  obtain ⟨b, b3', rfl⟩ := num db (by rcases hb with h | h | h | h <;> simp [h])
  obtain ⟨m, rfl⟩ : ∃ m, dm = .str (mdS m) := by
    rcases hm with h | h | h
    · exact ⟨true, h⟩
    · exact ⟨true, h⟩
    · exact ⟨false, h⟩
  refine ⟨⟨m, l, b, f, r5 == 0⟩, S5, ⟨l3, b3', f3⟩, hS5, ?_⟩
  have s1 : sP2 2 3 [false, false] [cSub (cLst [.p (cK (.int 0)), .p (cK (.int 1)), .p (cK (.int 1)), .p (cK (.int 2)), .p (cK .non)]) (cFn GG (ev GG kps (n + 1)) 15 2 [true, false] [cV 0, cK (.int 5)]), cSub (cLst [.p (cK (.int 0)), .p (cK (.int 1)), .p (cK .non), .p (cK .non)]) (cFn GG (ev GG kps (n + 1)) 15 2 [true, false] [cV 0, cK (.int 4)])] [some (.ref 0), none, none, none] S = .nx [some (.ref 0), none, some (.d (numD l)), some (.d (numD f))] S2 := by
    unfold sP2
    have : cAK [false, false] [cSub (cLst [.p (cK (.int 0)), .p (cK (.int 1)), .p (cK (.int 1)), .p (cK (.int 2)), .p (cK .non)]) (cFn GG (ev GG kps (n + 1)) 15 2 [true, false] [cV 0, cK (.int 5)]), cSub (cLst [.p (cK (.int 0)), .p (cK (.int 1)), .p (cK .non), .p (cK .non)]) (cFn GG (ev GG kps (n + 1)) 15 2 [true, false] [cV 0, cK (.int 4)])] [some (.ref 0), none, none, none] S = .ok [.d (numD l), .d (numD f)] S2 := by
      show ((cSub _ _ _ S).bind fun v S1 => _) = _
      rw [p1]
      show ((cSub _ _ _ S1).bind fun v S1 => _).bind _ = _
      rw [p2]
      rfl
    rw [this]
    rfl
  have s3 : cTup [.p (cSub (cLst [.p (cK (.str "each")), .p (cK (.str "each")), .p (cK (.str "whole"))]) (cFn GG (ev GG kps (n + 1)) 15 2 [true, false] [cV 0, cK (.int 3)])), .p (cV 2), .p (cV 1), .p (cV 3), .p (cEq GG (ev GG kps (n + 1)) (cFn GG (ev GG kps (n + 1)) 15 2 [true, false] [cV 0, cK (.int 4)]) (cK (.int 0)))] [some (.ref 0), some (.d (numD b)), some (.d (numD l)), some (.d (numD f))] S3 = .ok (.d (Wd.T ⟨m, l, b, f, r5 == 0⟩)) S5 := by
    have q : cEq GG (ev GG kps (n + 1)) (cFn GG (ev GG kps (n + 1)) 15 2 [true, false] [cV 0, cK (.int 4)]) (cK (.int 0)) [some (.ref 0), some (.d (numD b)), some (.d (numD l)), some (.d (numD f))] S4 = .ok (.d (.bl (r5 == 0))) S5 := by
      unfold cEq
      rw [e5, bind_ok]
      exact eq0 (n := n + 1)
    unfold cTup
    show ((cSub _ _ _ S3).bind fun v S1 => _).bind mkTup = _
    rw [p4, bind_ok]
    show (((((((cEq GG _ _ _ _ S4).bind fun v S1 => _).bind _).bind _).bind _).bind _)).bind mkTup = _
    rw [q]
    rfl
  have r : r17 (ev GG kps (n + 1)) [some (.ref 0), none, none, none] S = .rt (.d (Wd.T ⟨m, l, b, f, r5 == 0⟩)) S5 := by
    unfold r17
    rw [bk_nx s1, bk_nx (st_ok p3)]
    exact bk_rt (rt_ok s3)
  rw [r]
  rfl
end
end Ev.K03
set_option linter.all false
set_option maxRecDepth 100000
set_option maxHeartbeats 4000000
namespace Ev.K03
open PySem
/-! ## one turn of the law's loop -/
section
variable {S : Store} {w u : Wd} {x0 x2 x3 x4 x5 x6 x7 x8 x9 x10 x11 x12 x13 x14 x15 x16 x17 x18 x19 : Option W}
theorem s_worlds (hS : IsH S) : ∃ (w u : Wd) (S' : Store), w.ok ∧ u.ok ∧ IsH S' ∧ l0_0 R5 [x0, some (.ref 0), x2, x3, x4, x5, x6, x7, x8, x9, x10, x11, x12, x13, x14, x15, x16, x17, x18, x19] S = .nx [x0, some (.ref 0), x2, x3, x4, x5, x6, x7, x8, x9, some (.d w.T), some (.d u.T), x12, x13, x14, x15, x16, x17, x18, x19] S' := by
  obtain ⟨w, S1, hw, h1, e1⟩ := world_ok (n := 3) hS
  obtain ⟨u, S2, hu, h2, e2⟩ := world_ok (n := 3) h1
  refine ⟨w, u, S2, hw, hu, h2, ?_⟩
  have c : ∀ {S S' : Store} {w : Wd}, callF GG (ev GG kps (3 + 2)) 17 [.ref 0] S = .ok (.d w.T) S' → cFn GG R5 17 1 [false] [cV 1] [x0, some (.ref 0), x2, x3, x4, x5, x6, x7, x8, x9, x10, x11, x12, x13, x14, x15, x16, x17, x18, x19] S = .ok (.d w.T) S' := fun {S S' w} h => by
    show callX GG (ev GG kps 5) 17 1 [.ref 0] S = _
    rw [y17]
    exact h
  unfold l0_0 sTg cTup
  show liftS (((cFn GG R5 17 1 [false] [cV 1] _ S).bind fun v S1 => _).bind mkTup) _ _ = _
  rw [c e1, bind_ok]
  show liftS ((((cFn GG R5 17 1 [false] [cV 1] _ S1).bind fun v S1 => _).bind _).bind mkTup) _ _ = _
  rw [c e2]
  rfl
theorem s_made (hw : w.ok) (hu : u.ok) : l0_1 R5 [x0, some (.ref 0), x2, x3, x4, x5, x6, x7, x8, x9, some (.d w.T), some (.d u.T), x12, x13, x14, x15, x16, x17, x18, x19] S = .nx [x0, some (.ref 0), x2, x3, x4, x5, x6, x7, x8, x9, some (.d w.T), some (.d u.T), some (.d w.I), some (.d u.I), x14, x15, x16, x17, x18, x19] S := by
  have c : ∀ {w : Wd} {i : Nat} {σ : Env}, w.ok → σ[i]? = some (some (.d w.T)) → cFn GG R5 18 1 [false] [cV i] σ S = .ok (.d w.I) S := fun {w i σ} hw h => by
    have a : cAK [false] [cV i] σ S = .ok [.d w.T] S := by
      show ((vr i σ S).bind _) = _
      unfold vr
      rw [h]
      rfl
    unfold cFn
    rw [a, bind_ok, y18]
    exact made_ok (n := 1) w hw
  unfold l0_1 sP2
  show liftS ((cFn GG R5 18 1 [false] [cV 10] _ S).bind fun v S1 => _) _ _ = _
  rw [c hw rfl, bind_ok]
  show liftS (((cFn GG R5 18 1 [false] [cV 11] _ S).bind fun v S1 => _).bind _) _ _ = _
  rw [c hu rfl]
  rfl
/-- the five properties of an instance, as a tuple -/
theorem props_ok (w : Wd) (i : Nat) (σ : Env) (h : σ[i]? = some (some (.d w.I))) : cTup [.p (cAt GG R5 "mode" (cV i)), .p (cAt GG R5 "lost" (cV i)), .p (cAt GG R5 "breaks" (cV i)), .p (cAt GG R5 "fails" (cV i)), .p (cAt GG R5 "late" (cV i))] σ S = .ok (.d w.T) S := by
  have v : cV i σ S = .ok (.d w.I) S := by
    show vr i σ S = _
    unfold vr
    rw [h]
  have a : ∀ (f : PySem.Str) (d : D), attrO GG R5 f (.d w.I) S = .ok (.d d) S → cAt GG R5 f (cV i) σ S = .ok (.d d) S := fun f d hf => by
    unfold cAt
    rw [v, bind_ok, hf]
  have b1 := a "mode" _ (at_mode (n := 4) w)
  have b2 := a "lost" _ (at_lost (n := 4) w)
  have b3 := a "breaks" _ (at_breaks (n := 4) w)
  have b4 := a "fails" _ (at_fails (n := 4) w)
  have b5 := a "late" _ (at_late (n := 4) w)
  unfold cTup
  simp only [cA, b1, b2, b3, b4, b5, bind_ok]
  rfl
theorem alike_fn {e1 e2 : CE} {σ : Env} {d : D} (h1 : e1 σ S = .ok (.d d) S) (h2 : e2 σ S = .ok (.d d) S) (h : callF GG (ev GG kps 5) 16 [.d d, .d d] S = .ok (.d (.bl true)) S) : tNt (tE_ (cFn GG R5 16 2 [false, false] [e1, e2])) σ S = .ok false S := by
  refine tN_ok (k := true) (tE_ok (v := .d (.bl true)) ?_ rfl)
  have a : cAK [false, false] [e1, e2] σ S = .ok [.d d, .d d] S := by
    show ((e1 σ S).bind fun v S1 => _) = _
    rw [h1]
    show ((e2 σ S).bind fun v S1 => _).bind _ = _
    rw [h2]
    rfl
  unfold cFn
  rw [a, bind_ok, y16, h]
abbrev E1 (w u : Wd) (x0 x2 x3 x4 x5 x6 x7 x8 x9 x14 x15 x16 x17 x18 x19 : Option W) : Env := [x0, some (.ref 0), x2, x3, x4, x5, x6, x7, x8, x9, some (.d w.T), some (.d u.T), some (.d w.I), some (.d u.I), x14, x15, x16, x17, x18, x19]
theorem s_alike (hw : w.ok) : l0_2 R5 (E1 w u x0 x2 x3 x4 x5 x6 x7 x8 x9 x14 x15 x16 x17 x18 x19) S = .nx (E1 w u x0 x2 x3 x4 x5 x6 x7 x8 x9 x14 x15 x16 x17 x18 x19) S :=
  if_skip (alike_fn (props_ok w 12 _ rfl) rfl (alike_T (n := 3) w hw))
theorem s_eq : l0_3 R5 (E1 w u x0 x2 x3 x4 x5 x6 x7 x8 x9 x14 x15 x16 x17 x18 x19) S = .nx (E1 w u x0 x2 x3 x4 x5 x6 x7 x8 x9 x14 x15 x16 x17 x18 x19) S := by
  have a : cEq GG R5 (cV 12) (cV 13) (E1 w u x0 x2 x3 x4 x5 x6 x7 x8 x9 x14 x15 x16 x17 x18 x19) S = .ok (.d (.bl (w.eq u))) S := eqF_I (n := 3) w u
  have b : cEq GG R5 (cV 10) (cV 11) (E1 w u x0 x2 x3 x4 x5 x6 x7 x8 x9 x14 x15 x16 x17 x18 x19) S = .ok (.d (.bl (w.eq u))) S := eqF_TT (n := 3) w u
  have c : cEq GG R5 (cV 12) (cV 10) (E1 w u x0 x2 x3 x4 x5 x6 x7 x8 x9 x14 x15 x16 x17 x18 x19) S = .ok (.d (.bl false)) S := eqF_IT (n := 3) w w
  have d : cCmp .NotEq (cEq GG R5 (cV 12) (cV 13)) (cEq GG R5 (cV 10) (cV 11)) (E1 w u x0 x2 x3 x4 x5 x6 x7 x8 x9 x14 x15 x16 x17 x18 x19) S = .ok (.d (.bl false)) S := by
    refine cmp_ok a b ?_
    cases w.eq u <;> kernel_rfl
  refine if_skip ?_
  show ((tC_ (cCmp .NotEq (cEq GG R5 (cV 12) (cV 13)) (cEq GG R5 (cV 10) (cV 11))) _ S).bind fun k S1 => _) = _
  rw [tC_ok d, bind_ok]
  exact tC_ok c
def prD (x y : Option Nat) : D := .tup [.int (nine x), .int (nine y)]
def prs (w u : Wd) : List D := [prD w.l u.l, prD w.b u.b, prD w.f u.f]
theorem num_fn {e : CE} {σ : Env} {x : Option Nat} (h1 : e σ S = .ok (.d (numD x)) S) : cFn GG R5 19 1 [false] [e] σ S = .ok (.d (.int (nine x))) S := by
  have a : cAK [false] [e] σ S = .ok [.d (numD x)] S := by
    show ((e σ S).bind fun v S1 => _) = _
    rw [h1]
    rfl
  unfold cFn
  rw [a, bind_ok, y19]
  exact number_ok (n := 4) x
theorem s_pairs : l0_4 R5 (E1 w u x0 x2 x3 x4 x5 x6 x7 x8 x9 x14 x15 x16 x17 x18 x19) S = .nx (E1 w u x0 x2 x3 x4 (some (.d (.lst (prs w u)))) x6 x7 x8 x9 x14 x15 x16 x17 x18 x19) S := by
  have key : ∀ (j : Int) (x y : Option Nat), (cSub (cV 10) (cV 17) ((E1 w u x0 x2 x3 x4 x5 x6 x7 x8 x9 x14 x15 x16 x17 x18 x19).set 17 (some (.d (.int j)))) S = .ok (.d (numD x)) S) → (cSub (cV 11) (cV 17) ((E1 w u x0 x2 x3 x4 x5 x6 x7 x8 x9 x14 x15 x16 x17 x18 x19).set 17 (some (.d (.int j)))) S = .ok (.d (numD y)) S) →
      cTup [.p (cFn GG R5 19 1 [false] [cSub (cV 10) (cV 17)]), .p (cFn GG R5 19 1 [false] [cSub (cV 11) (cV 17)])] ((E1 w u x0 x2 x3 x4 x5 x6 x7 x8 x9 x14 x15 x16 x17 x18 x19).set 17 (some (.d (.int j)))) S = .ok (.d (prD x y)) S := fun j x y h1 h2 => by
    unfold cTup
    simp only [cA, num_fn h1, num_fn h2, bind_ok]
    rfl
  have lc : cLc (wE_ (cTup [.p (cK (.int 1)), .p (cK (.int 2)), .p (cK (.int 3))])) (.n 17) tTr (cTup [.p (cFn GG R5 19 1 [false] [cSub (cV 10) (cV 17)]), .p (cFn GG R5 19 1 [false] [cSub (cV 11) (cV 17)])]) [17] (E1 w u x0 x2 x3 x4 x5 x6 x7 x8 x9 x14 x15 x16 x17 x18 x19) S = .ok (.own (prs w u)) S := by
    have := lc_ok (it := wE_ (cTup [.p (cK (.int 1)), .p (cK (.int 2)), .p (cK (.int 3))])) (tg := .n 17) (T := tTr) (E := cTup [.p (cFn GG R5 19 1 [false] [cSub (cV 10) (cV 17)]), .p (cFn GG R5 19 1 [false] [cSub (cV 11) (cV 17)])]) (wp := [17]) (σ := E1 w u x0 x2 x3 x4 x5 x6 x7 x8 x9 x14 x15 x16 x17 x18 x19) (S := S) (S1 := S) (xs := [.int 1, .int 2, .int 3])
      (fun d => match d with | .int 1 => prD w.l u.l | .int 2 => prD w.b u.b | _ => prD w.f u.f) rfl (fun x hx => ?_) (show 3 < line by decide)
    · exact this
    · simp only [List.mem_cons, List.not_mem_nil, or_false] at hx
      rcases hx with rfl | rfl | rfl
      · exact ⟨_, rfl, rfl, key 1 w.l u.l rfl rfl⟩
      · exact ⟨_, rfl, rfl, key 2 w.b u.b rfl rfl⟩
      · exact ⟨_, rfl, rfl, key 3 w.f u.f rfl rfl⟩
  exact st_ok lc
end
end Ev.K03
set_option linter.all false
set_option maxRecDepth 100000
set_option maxHeartbeats 4000000
namespace Ev.K03
open PySem
section
variable {S : Store} {w u : Wd} {x0 x2 x3 x4 x5 x6 x7 x8 x9 x14 x15 x16 x17 x18 x19 : Option W}
theorem most_nine {x y : Option Nat} (hx : le3 x) (hy : le3 y) : decide ((nine y : Int) < (nine x : Int)) = !isMost x y := by
  cases x with
  | none =>
    cases y with
    | none => rfl
    | some j =>
      have : j ≤ 3 := hy
      show decide ((j : Int) < (9 : Int)) = true
      exact decide_eq_true (by omega)
  | some i =>
    have hi : i ≤ 3 := hx
    cases y with
    | none =>
      show decide ((9 : Int) < (i : Int)) = false
      exact decide_eq_false (by omega)
    | some j =>
      show decide ((j : Int) < (i : Int)) = !decide ((i : Int) ≤ (j : Int))
      by_cases h : (i : Int) ≤ (j : Int)
      · rw [decide_eq_true h, decide_eq_false (by omega)]
        rfl
      · rw [decide_eq_false h, decide_eq_true (by omega)]
        rfl
def gtP : D → Bool
  | .tup [.int i, .int j] => decide (j < i)
  | _ => false
def Wd.mil0 (w u : Wd) : Bool := decide (w.m = u.m) && (isMost w.l u.l && (isMost w.b u.b && isMost w.f u.f))
abbrev E2 (w u : Wd) (x0 x2 x3 x4 x6 x7 x8 x9 x14 x15 x16 x17 x18 x19 : Option W) : Env := E1 w u x0 x2 x3 x4 (some (.d (.lst (prs w u)))) x6 x7 x8 x9 x14 x15 x16 x17 x18 x19
theorem md_eq {S : Store} {a b : Bool} : eqF GG R5 (.d (.str (mdS a))) (.d (.str (mdS b))) S = .ok (.d (.bl (decide (a = b)))) S := by
  show opt ((eqD (.str (mdS a)) (.str (mdS b))).map fun k => RV.d (.bl k)) S = _
  rw [eqD_md]
  rfl
theorem s_mil (hw : w.ok) (hu : u.ok) : l0_5 R5 (E2 w u x0 x2 x3 x4 x6 x7 x8 x9 x14 x15 x16 x17 x18 x19) S = .nx (E2 w u x0 x2 x3 x4 (some (.d (.bl (w.mil0 u)))) x7 x8 x9 x14 x15 x16 x17 x18 x19) S := by
  have a : cEq GG R5 (cSub (cV 10) (cK (.int 0))) (cSub (cV 11) (cK (.int 0))) (E2 w u x0 x2 x3 x4 x6 x7 x8 x9 x14 x15 x16 x17 x18 x19) S = .ok (.d (.bl (decide (w.m = u.m)))) S := md_eq
  have lc : cLc (wE_ (cV 5)) (.n 19) (tC_ (cCmp .Gt (cSub (cV 19) (cK (.int 0))) (cSub (cV 19) (cK (.int 1))))) (cV 19) [19] (E2 w u x0 x2 x3 x4 x6 x7 x8 x9 x14 x15 x16 x17 x18 x19) S = .ok (.own (((prs w u).filter gtP).map id)) S := by
    refine lcf_ok (xs := prs w u) gtP id rfl (fun x hx => ?_) (show 3 < line by decide)
    simp only [prs, List.mem_cons, List.not_mem_nil, or_false] at hx
    rcases hx with rfl | rfl | rfl
    · exact ⟨_, rfl, rfl, fun _ => rfl⟩
    · exact ⟨_, rfl, rfl, fun _ => rfl⟩
    · exact ⟨_, rfl, rfl, fun _ => rfl⟩
  have b : cEq GG R5 (cLc (wE_ (cV 5)) (.n 19) (tC_ (cCmp .Gt (cSub (cV 19) (cK (.int 0))) (cSub (cV 19) (cK (.int 1))))) (cV 19) [19]) (cLst []) (E2 w u x0 x2 x3 x4 x6 x7 x8 x9 x14 x15 x16 x17 x18 x19) S = .ok (.d (.bl (isMost w.l u.l && (isMost w.b u.b && isMost w.f u.f)))) S := by
    unfold cEq
    rw [lc, bind_ok]
    have p1 : gtP (prD w.l u.l) = !isMost w.l u.l := most_nine hw.1 hu.1
    have p2 : gtP (prD w.b u.b) = !isMost w.b u.b := most_nine hw.2.1 hu.2.1
    have p3 : gtP (prD w.f u.f) = !isMost w.f u.f := most_nine hw.2.2 hu.2.2
    show eqF GG R5 (.own (((prs w u).filter gtP).map id)) (.own []) S = _
    rw [List.map_id]
    unfold prs
    cases h1 : isMost w.l u.l <;> cases h2 : isMost w.b u.b <;> cases h3 : isMost w.f u.f <;> rw [h1] at p1 <;> rw [h2] at p2 <;> rw [h3] at p3 <;> simp only [List.filter_cons, List.filter_nil, p1, p2, p3, Bool.not_true, Bool.not_false, if_true, Bool.false_eq_true, if_false] <;> kernel_rfl
  refine st_ok (v := .d (.bl (w.mil0 u))) ?_
  unfold Wd.mil0
  cases hm : decide (w.m = u.m) with
  | true =>
    rw [hm] at a
    rw [and_t a rfl]
    exact b
  | false =>
    rw [hm] at a
    rw [and_f a rfl]
    rfl
theorem mil_eq : w.mil u = (w.mil0 u && (u.t || !w.t)) := by
  unfold Wd.mil Wd.mil0
  cases decide (w.m = u.m) <;> cases u.t <;> cases w.t <;> simp
theorem most_refl (x : Option Nat) : isMost x x = true := by
  cases x with
  | none => rfl
  | some i => exact decide_eq_true (Int.le_refl _)
theorem mil_refl : w.mil w = true := by
  unfold Wd.mil
  rw [most_refl, most_refl, most_refl]
  cases w.t <;> simp
theorem mt_mil {i j : Nat} {σ : Env} {w u : Wd} (h1 : σ[i]? = some (some (.d w.I))) (h2 : σ[j]? = some (some (.d u.I))) : cMt GG R5 "is_milder" 1 (cV i) [cV j] σ S = .ok (.d (.bl (w.mil u))) S := by
  have v1 : cV i σ S = .ok (.d w.I) S := by
    show vr i σ S = _
    unfold vr
    rw [h1]
  have v2 : cV j σ S = .ok (.d u.I) S := by
    show vr j σ S = _
    unfold vr
    rw [h2]
  unfold cMt
  rw [v1, bind_ok]
  have a : cAK [false] [cV j] σ S = .ok [.d u.I] S := by
    show ((cV j σ S).bind fun v S1 => _) = _
    rw [v2]
    rfl
  show ((cAK [false] [cV j] σ S).bind fun ws S2 => callX GG R5 12 2 (.d w.I :: ws) S2) = _
  rw [a, bind_ok, y12]
  exact milder_ok (n := 3) w u
abbrev E3 (w u : Wd) (x0 x2 x3 x4 x7 x8 x9 x14 x15 x16 x17 x18 x19 : Option W) : Env := E2 w u x0 x2 x3 x4 (some (.d (.bl (w.mil0 u)))) x7 x8 x9 x14 x15 x16 x17 x18 x19
theorem s_milder : l0_6 R5 (E3 w u x0 x2 x3 x4 x7 x8 x9 x14 x15 x16 x17 x18 x19) S = .nx (E3 w u x0 x2 x3 x4 x7 x8 x9 x14 x15 x16 x17 x18 x19) S := by
  have a : cBl .And [cV 6, cBl .Or [cSub (cV 11) (cK (.int 4)), cNot (cSub (cV 10) (cK (.int 4)))]] (E3 w u x0 x2 x3 x4 x7 x8 x9 x14 x15 x16 x17 x18 x19) S = .ok (.d (.bl (w.mil u))) S := by
    rw [mil_eq]
    have o : cBl .Or [cSub (cV 11) (cK (.int 4)), cNot (cSub (cV 10) (cK (.int 4)))] (E3 w u x0 x2 x3 x4 x7 x8 x9 x14 x15 x16 x17 x18 x19) S = .ok (.d (.bl (u.t || !w.t))) S := by
      have e1 : cSub (cV 11) (cK (.int 4)) (E3 w u x0 x2 x3 x4 x7 x8 x9 x14 x15 x16 x17 x18 x19) S = .ok (.d (.bl u.t)) S := rfl
      cases ht : u.t with
      | true =>
        rw [ht] at e1
        rw [or_t e1 rfl]
        rfl
      | false =>
        rw [ht] at e1
        rw [or_f e1 rfl]
        rfl
    have e0 : cV 6 (E3 w u x0 x2 x3 x4 x7 x8 x9 x14 x15 x16 x17 x18 x19) S = .ok (.d (.bl (w.mil0 u))) S := rfl
    cases hm : w.mil0 u with
    | true =>
      have e0' : cV 6 (E3 w u x0 x2 x3 x4 x7 x8 x9 x14 x15 x16 x17 x18 x19) S = .ok (.d (.bl true)) S := by rw [e0, hm]
      rw [and_t e0' rfl]
      exact o
    | false =>
      have e0' : cV 6 (E3 w u x0 x2 x3 x4 x7 x8 x9 x14 x15 x16 x17 x18 x19) S = .ok (.d (.bl false)) S := by rw [e0, hm]
      rw [and_f e0' rfl]
      rfl
  have t1 := alike_fn (mt_mil (S := S) (i := 12) (j := 13) (σ := E3 w u x0 x2 x3 x4 x7 x8 x9 x14 x15 x16 x17 x18 x19) (w := w) (u := u) rfl rfl) a (alike_bl (n := 4) (w.mil u))
  have t2 : tNt (tE_ (cMt GG R5 "is_milder" 1 (cV 12) [cV 12])) (E3 w u x0 x2 x3 x4 x7 x8 x9 x14 x15 x16 x17 x18 x19) S = .ok false S := by
    refine tN_ok (k := true) (tE_ok (v := .d (.bl true)) ?_ rfl)
    have := mt_mil (S := S) (i := 12) (j := 12) (σ := E3 w u x0 x2 x3 x4 x7 x8 x9 x14 x15 x16 x17 x18 x19) (w := w) (u := w) rfl rfl
    rw [mil_refl] at this
    exact this
  refine if_skip ?_
  show ((tNt (tE_ (cFn GG R5 16 2 [false, false] [cMt GG R5 "is_milder" 1 (cV 12) [cV 13], cBl .And [cV 6, cBl .Or [cSub (cV 11) (cK (.int 4)), cNot (cSub (cV 10) (cK (.int 4)))]]])) _ S).bind fun k S1 => _) = _
  rw [t1, bind_ok]
  exact t2
theorem s_join (hw : w.ok) (hu : u.ok) : l0_7 R5 (E3 w u x0 x2 x3 x4 x7 x8 x9 x14 x15 x16 x17 x18 x19) S = .nx (E3 w u x0 x2 x3 x4 (some (.d (joinD w u))) x8 x9 x14 x15 x16 x17 x18 x19) S := by
  have c : cFn GG R5 21 2 [false, false] [cV 12, cV 13] (E3 w u x0 x2 x3 x4 x7 x8 x9 x14 x15 x16 x17 x18 x19) S = .ok (.d (joinD w u)) S := by
    show callX GG R5 21 2 [.d w.I, .d u.I] S = _
    rw [y21]
    exact joined_ok (n := 0) w u hw hu
  exact st_ok c
abbrev E4 (w u : Wd) (x0 x2 x3 x4 x8 x9 x14 x15 x16 x17 x18 x19 : Option W) : Env := E3 w u x0 x2 x3 x4 (some (.d (joinD w u))) x8 x9 x14 x15 x16 x17 x18 x19
theorem non_join : isNonD (joinD w u) = !decide (w.m = u.m) := by
  unfold joinD
  by_cases h : w.m = u.m
  · rw [if_pos h, decide_eq_true h]
    rfl
  · rw [if_neg h, decide_eq_false h]
    rfl
theorem s_none : l0_8 R5 (E4 w u x0 x2 x3 x4 x8 x9 x14 x15 x16 x17 x18 x19) S = .nx (E4 w u x0 x2 x3 x4 x8 x9 x14 x15 x16 x17 x18 x19) S := by
  have a : cCmp .Is (cV 7) (cK .non) (E4 w u x0 x2 x3 x4 x8 x9 x14 x15 x16 x17 x18 x19) S = .ok (.d (.bl (!decide (w.m = u.m)))) S := by
    refine cmp_ok (v := .d (joinD w u)) (u := .d .non) (S1 := S) rfl rfl ?_
    show some (isNonD (joinD w u)) = _
    rw [non_join]
  have b : cCmp .NotEq (cSub (cV 10) (cK (.int 0))) (cSub (cV 11) (cK (.int 0))) (E4 w u x0 x2 x3 x4 x8 x9 x14 x15 x16 x17 x18 x19) S = .ok (.d (.bl (!decide (w.m = u.m)))) S := by
    refine cmp_ok (v := .d (.str (mdS w.m))) (u := .d (.str (mdS u.m))) (S1 := S) rfl rfl ?_
    show (eqD (.str (mdS w.m)) (.str (mdS u.m))).map (!·) = _
    rw [eqD_md]
    rfl
  have d : cCmp .NotEq (cCmp .Is (cV 7) (cK .non)) (cCmp .NotEq (cSub (cV 10) (cK (.int 0))) (cSub (cV 11) (cK (.int 0)))) (E4 w u x0 x2 x3 x4 x8 x9 x14 x15 x16 x17 x18 x19) S = .ok (.d (.bl false)) S := by
    refine cmp_ok a b ?_
    cases decide (w.m = u.m) <;> kernel_rfl
  exact if_skip (tC_ok d)
theorem great_one {x y : Option Nat} (hx : le3 x) (hy : le3 y) {σ : Env} (h : σ[19]? = some (some (.d (prD x y)))) : cIf (tC_ (cEq GG R5 (cBi oMax [.p (cV 19)]) (cK (.int 9)))) (cK .non) (cBi oMax [.p (cV 19)]) σ S = .ok (.d (numD (grt x y))) S := by
  have v : cV 19 σ S = .ok (.d (prD x y)) S := by
    show vr 19 σ S = _
    unfold vr
    rw [h]
  have m : cBi oMax [.p (cV 19)] σ S = .ok (.d (.int (if (nine y : Int) > (nine x : Int) then (nine y : Int) else (nine x : Int)))) S := bi_ok v rfl rfl rfl
  have hm : (if (nine y : Int) > (nine x : Int) then (nine y : Int) else (nine x : Int)) = (nine (grt x y) : Int) := by
    have := most_nine hx hy
    unfold grt
    cases hk : isMost x y with
    | true =>
      rw [hk] at this
      have := of_decide_eq_false this
      rw [if_pos rfl]
      split
      · rfl
      · cases x with
        | none =>
          cases y with
          | none => rfl
          | some j => cases hk
        | some i =>
          cases y with
          | none =>
            have hi : i ≤ 3 := hx
            exfalso
            rename_i hn
            apply hn
            show (9 : Int) > (i : Int)
            omega
          | some j =>
            have hij : (i : Int) ≤ (j : Int) := of_decide_eq_true hk
            rename_i hn
            have hn : ¬ ((j : Int) > (i : Int)) := hn
            show (i : Int) = (j : Int)
            omega
    | false =>
      rw [hk] at this
      have := of_decide_eq_true this
      rw [if_neg (by omega)]
      rfl
  rw [hm] at m
  have hg : le3 (grt x y) := grt_le hx hy
  generalize grt x y = z at m hg
  have e : cEq GG R5 (cBi oMax [.p (cV 19)]) (cK (.int 9)) σ S = .ok (.d (.bl z.isNone)) S := by
    unfold cEq
    rw [m, bind_ok]
    match z, hg with
    | none, _ => kernel_rfl
    | some 0, _ => kernel_rfl
    | some 1, _ => kernel_rfl
    | some 2, _ => kernel_rfl
    | some 3, _ => kernel_rfl
    | some (k + 4), h => exact absurd (show k + 4 ≤ 3 from h) (by omega)
  rw [ife_ok (tC_ok e)]
  cases z with
  | none => rfl
  | some k => exact m
end
end Ev.K03
set_option linter.all false
set_option maxRecDepth 100000
set_option maxHeartbeats 4000000
namespace Ev.K03
open PySem
section
variable {S : Store} {w u : Wd} {x0 x2 x3 x4 x5 x6 x7 x8 x9 x10 x11 x12 x13 x14 x15 x16 x17 x18 x19 : Option W}
theorem s_both (hw : w.ok) (hu : u.ok) : ∃ y14 y15 : Option W, l0_9 R5 (E4 w u x0 x2 x3 x4 x8 x9 x14 x15 x16 x17 x18 x19) S = .nx (E4 w u x0 x2 x3 x4 x8 x9 y14 y15 x16 x17 x18 x19) S := by
  have t : tC_ (cCmp .IsNot (cV 7) (cK .non)) (E4 w u x0 x2 x3 x4 x8 x9 x14 x15 x16 x17 x18 x19) S = .ok (decide (w.m = u.m)) S := by
    refine tC_ok (cmp_ok (v := .d (joinD w u)) (u := .d .non) (S1 := S) rfl rfl ?_)
    show some (!isNonD (joinD w u)) = _
    rw [non_join, Bool.not_not]
  by_cases h : w.m = u.m
  · rw [decide_eq_true h] at t
    let g : D := .lst [numD (grt w.l u.l), numD (grt w.b u.b), numD (grt w.f u.f)]
    refine ⟨some (.d g), some (.d (w.or u).T), ?_⟩
    have lc : cLc (wE_ (cV 5)) (.n 19) tTr (cIf (tC_ (cEq GG R5 (cBi oMax [.p (cV 19)]) (cK (.int 9)))) (cK .non) (cBi oMax [.p (cV 19)])) [19] (E4 w u x0 x2 x3 x4 x8 x9 x14 x15 x16 x17 x18 x19) S = .ok (.own [numD (grt w.l u.l), numD (grt w.b u.b), numD (grt w.f u.f)]) S := by
      have key : ∀ x y : Option Nat, le3 x → le3 y → ∃ σ1, CG.go (.n 19) (prD x y) (wipeE (E4 w u x0 x2 x3 x4 x8 x9 x14 x15 x16 x17 x18 x19) [19]) = some σ1 ∧ tTr σ1 S = .ok true S ∧ cIf (tC_ (cEq GG R5 (cBi oMax [.p (cV 19)]) (cK (.int 9)))) (cK .non) (cBi oMax [.p (cV 19)]) σ1 S = .ok (.d (numD (grt x y))) S := fun x y hx hy => ⟨_, rfl, rfl, great_one hx hy rfl⟩
      have hi : wE_ (cV 5) (E4 w u x0 x2 x3 x4 x8 x9 x14 x15 x16 x17 x18 x19) S = .ok (.fix [prD w.l u.l, prD w.b u.b, prD w.f u.f]) S := rfl
      unfold cLc
      rw [hi, bind_ok]
      obtain ⟨σ1, a1, a2, a3⟩ := key w.l u.l hw.1 hu.1
      obtain ⟨σ2, b1, b2, b3⟩ := key w.b u.b hw.2.1 hu.2.1
      obtain ⟨σ3, c1, c2, c3⟩ := key w.f u.f hw.2.2 hu.2.2
      show lcS _ _ _ _ _ 4 0 [] S = _
      simp only [lcS, curOf, List.getElem?_cons_zero, List.getElem?_cons_succ, a1, a2, a3, b1, b2, b3, c1, c2, c3]
      rfl
    have due : cBin .Add (cBin .Add (cTup [.p (cSub (cV 10) (cK (.int 0)))]) (cBi oTup [.p (cV 14)])) (cTup [.p (cBl .Or [cSub (cV 10) (cK (.int 4)), cSub (cV 11) (cK (.int 4))])]) (E4 w u x0 x2 x3 x4 x8 x9 (some (.d g)) x15 x16 x17 x18 x19) S = .ok (.d (w.or u).T) S := by
      have o : cBl .Or [cSub (cV 10) (cK (.int 4)), cSub (cV 11) (cK (.int 4))] (E4 w u x0 x2 x3 x4 x8 x9 (some (.d g)) x15 x16 x17 x18 x19) S = .ok (.d (.bl (w.t || u.t))) S := by
        have e1 : cSub (cV 10) (cK (.int 4)) (E4 w u x0 x2 x3 x4 x8 x9 (some (.d g)) x15 x16 x17 x18 x19) S = .ok (.d (.bl w.t)) S := rfl
        cases ht : w.t with
        | true =>
          rw [ht] at e1
          rw [or_t e1 rfl]
          rfl
        | false =>
          rw [ht] at e1
          rw [or_f e1 rfl]
          rfl
      have c1 : cBin .Add (cTup [.p (cSub (cV 10) (cK (.int 0)))]) (cBi oTup [.p (cV 14)]) (E4 w u x0 x2 x3 x4 x8 x9 (some (.d g)) x15 x16 x17 x18 x19) S = .ok (.d (.tup [.str (mdS w.m), numD (grt w.l u.l), numD (grt w.b u.b), numD (grt w.f u.f)])) S := rfl
      have c2 : cTup [.p (cBl .Or [cSub (cV 10) (cK (.int 4)), cSub (cV 11) (cK (.int 4))])] (E4 w u x0 x2 x3 x4 x8 x9 (some (.d g)) x15 x16 x17 x18 x19) S = .ok (.d (.tup [.bl (w.t || u.t)])) S := by
        unfold cTup
        simp only [cA, o, bind_ok]
        rfl
      unfold cBin at c1 ⊢
      rw [c1, bind_ok, c2]
      rfl
    have j7 : joinD w u = (w.or u).I := if_pos h
    have al : tNt (tE_ (cFn GG R5 16 2 [false, false] [cTup [.p (cAt GG R5 "mode" (cV 7)), .p (cAt GG R5 "lost" (cV 7)), .p (cAt GG R5 "breaks" (cV 7)), .p (cAt GG R5 "fails" (cV 7)), .p (cAt GG R5 "late" (cV 7))], cV 15])) (E4 w u x0 x2 x3 x4 x8 x9 (some (.d g)) (some (.d (w.or u).T)) x16 x17 x18 x19) S = .ok false S :=
      alike_fn (props_ok (w.or u) 7 _ (by show some (some (W.d (joinD w u))) = _; rw [j7])) rfl (alike_T (n := 3) (w.or u) (or_okW hw hu))
    unfold l0_9
    rw [if_yes t, bk_nx (st_ok lc)]
    show sBk _ (E4 w u x0 x2 x3 x4 x8 x9 (some (.d g)) x15 x16 x17 x18 x19) S = _
    rw [bk_nx (st_ok due)]
    show sBk _ (E4 w u x0 x2 x3 x4 x8 x9 (some (.d g)) (some (.d (w.or u).T)) x16 x17 x18 x19) S = _
    rw [bk_nx (if_skip al)]
    rfl
  · rw [decide_eq_false h] at t
    exact ⟨x14, x15, if_skip t⟩
abbrev E5 (w u : Wd) (p q : D) (x0 x2 x3 x4 x14 x15 x16 x17 x18 x19 : Option W) : Env := E4 w u x0 x2 x3 x4 (some (.d p)) (some (.d q)) x14 x15 x16 x17 x18 x19
theorem s_draws (hS : IsH S) : ∃ (p q : D) (S1 S2 : Store), p ∈ ([.int 0, .int 1, .int 2] : List D) ∧ q ∈ odd7 ∧ IsH S2 ∧ l0_10 R5 (E4 w u x0 x2 x3 x4 x8 x9 x14 x15 x16 x17 x18 x19) S = .nx (E4 w u x0 x2 x3 x4 (some (.d p)) x9 x14 x15 x16 x17 x18 x19) S1 ∧
    l0_11 R5 (E4 w u x0 x2 x3 x4 (some (.d p)) x9 x14 x15 x16 x17 x18 x19) S1 = .nx (E5 w u p q x0 x2 x3 x4 x14 x15 x16 x17 x18 x19) S2 := by
  obtain ⟨r, S1, r0, r1, h1, e1⟩ := draw_ok (n := 4) (i := 1) (cap := 3) (σ := E4 w u x0 x2 x3 x4 x8 x9 x14 x15 x16 x17 x18 x19) rfl (by decide) (by decide) hS
  obtain ⟨r', S2, r0', r1', h2, e2⟩ := draw_ok (n := 4) (i := 1) (cap := 7) (σ := E4 w u x0 x2 x3 x4 (some (.d (.int r))) x9 x14 x15 x16 x17 x18 x19) rfl (by decide) (by decide) h1
  obtain ⟨q, hq, p2⟩ := pick_ok (es := [.p (cNeg (cK (.int 1))), .p (cK (.int 4)), .p (cK (.bl true)), .p (cK (.bl false)), .p (cK (.str "1")), .p (cTup []), .p (cDic)]) (ds := odd7) rfl e2 r0' r1' (show 7 ≤ line by decide)
  refine ⟨.int r, q, S1, S2, ?_, hq, h2, st_ok e1, st_ok p2⟩
  have : r = 0 ∨ r = 1 ∨ r = 2 := by omega
  rcases this with rfl | rfl | rfl <;> simp
theorem s_odd {p q : D} (hp : p ∈ ([.int 0, .int 1, .int 2] : List D)) (hq : q ∈ odd7) : l0_12 R5 (E5 w u p q x0 x2 x3 x4 x14 x15 x16 x17 x18 x19) S = .nx (E5 w u p q x0 x2 x3 x4 x14 x15 x16 x17 x18 x19) S := by
  refine if_skip (tN_ok (k := true) (tE_ok (v := .d (.bl true)) ?_ rfl))
  show callX GG R5 20 4 [.d (.str "each"), .d q, .d (.bl false), .d p] S = _
  rw [y20]
  exact refused_yes (n := 1) q hq p hp
/-- a turn -/
theorem turn_ok (hS : IsH S) : ∃ (w u : Wd) (p q : D) (y14 y15 : Option W) (S' : Store), IsH S' ∧ sBk [l0_0 R5, l0_1 R5, l0_2 R5, l0_3 R5, l0_4 R5, l0_5 R5, l0_6 R5, l0_7 R5, l0_8 R5, l0_9 R5, l0_10 R5, l0_11 R5, l0_12 R5] [x0, some (.ref 0), x2, x3, x4, x5, x6, x7, x8, x9, x10, x11, x12, x13, x14, x15, x16, x17, x18, x19] S = .nx (E5 w u p q x0 x2 x3 x4 y14 y15 x16 x17 x18 x19) S' := by
  obtain ⟨w, u, S1, hw, hu, h1, e1⟩ := s_worlds (x0 := x0) (x2 := x2) (x3 := x3) (x4 := x4) (x5 := x5) (x6 := x6) (x7 := x7) (x8 := x8) (x9 := x9) (x10 := x10) (x11 := x11) (x12 := x12) (x13 := x13) (x14 := x14) (x15 := x15) (x16 := x16) (x17 := x17) (x18 := x18) (x19 := x19) hS
  obtain ⟨y14, y15, e9⟩ := s_both (S := S1) (x0 := x0) (x2 := x2) (x3 := x3) (x4 := x4) (x8 := x8) (x9 := x9) (x14 := x14) (x15 := x15) (x16 := x16) (x17 := x17) (x18 := x18) (x19 := x19) hw hu
  obtain ⟨p, q, S2, S3, hp, hq, h2, e10, e11⟩ := s_draws (w := w) (u := u) (x0 := x0) (x2 := x2) (x3 := x3) (x4 := x4) (x8 := x8) (x9 := x9) (x14 := y14) (x15 := y15) (x16 := x16) (x17 := x17) (x18 := x18) (x19 := x19) h1
  refine ⟨w, u, p, q, y14, y15, S3, h2, ?_⟩
  rw [bk_nx e1, bk_nx (s_made hw hu), bk_nx (s_alike hw), bk_nx s_eq, bk_nx s_pairs, bk_nx (s_mil hw hu), bk_nx s_milder, bk_nx (s_join hw hu), bk_nx s_none, bk_nx e9, bk_nx e10, bk_nx e11, bk_nx (s_odd hp hq)]
  rfl
end
/-! ## the rest of the law -/
theorem tail_ok {S : Store} {x0 x2 x3 x4 x5 x6 x7 x8 x9 x10 x11 x12 x13 x14 x15 x16 x17 x18 x19 : Option W} : ∃ S', sBk [l1 R5, l2 R5, l3 R5, l4 R5, l5 R5, l6 R5] [x0, some (.ref 0), x2, x3, x4, x5, x6, x7, x8, x9, x10, x11, x12, x13, x14, x15, x16, x17, x18, x19] S = .rt (.d (.bl true)) S' := by
  refine ⟨S, ?_⟩
  have rf : ∀ (a b c d : D) (k : Bool), callF GG (ev GG kps 5) 20 [.d a, .d b, .d c, .d d] S = .ok (.d (.bl k)) S → callX GG R5 20 4 [.d a, .d b, .d c, .d d] S = .ok (.d (.bl k)) S := fun a b c d k h => by rw [y20, h]
  have s1 : l1 R5 [x0, some (.ref 0), x2, x3, x4, x5, x6, x7, x8, x9, x10, x11, x12, x13, x14, x15, x16, x17, x18, x19] S = .nx [x0, some (.ref 0), x2, x3, x4, x5, x6, x7, x8, x9, x10, x11, x12, x13, x14, x15, x16, x17, x18, x19] S := by
    refine if_skip ?_
    have a := tE_ok (σ := [x0, some (.ref 0), x2, x3, x4, x5, x6, x7, x8, x9, x10, x11, x12, x13, x14, x15, x16, x17, x18, x19]) (S := S) (e := cFn GG R5 20 4 [false, false, false, false] [cK (.str "whole"), cK .non, cK (.bl true), cK (.int 0)]) (rf _ _ _ _ _ (refused_n1 (n := 1))) rfl
    show ((tE_ _ _ S).bind fun k S1 => _) = _
    rw [a, bind_ok]
    exact tE_ok (v := .d (.bl false)) (rf _ _ _ _ _ (refused_n2 (n := 1))) rfl
  have lc2 : cLc (wE_ (cLst [.p (cK (.str "")), .p (cK (.str "both")), .p (cK .non), .p (cK (.int 1))])) (.n 16) tTr (cFn GG R5 20 4 [false, false, false, false] [cV 16, cK (.int 0), cK (.bl false), cK (.int 0)]) [16] [x0, some (.ref 0), x2, x3, x4, x5, x6, x7, x8, x9, x10, x11, x12, x13, x14, x15, x16, x17, x18, x19] S = .ok (.own [.bl true, .bl true, .bl true, .bl true]) S := by
    refine lc_ok (xs := [.str "", .str "both", .non, .int 1]) (fun _ => .bl true) rfl (fun x hx => ⟨_, rfl, rfl, ?_⟩) (show 4 < line by decide)
    exact rf _ _ _ _ _ (refused_md (n := 1) x hx)
  have lc3 : cLc (wE_ (cLst [.p (cK (.int 1)), .p (cK (.int 0)), .p (cK .non), .p (cK (.str "x"))])) (.n 18) tTr (cFn GG R5 20 4 [false, false, false, false] [cK (.str "each"), cK (.int 0), cV 18, cK (.int 1)]) [18] [x0, some (.ref 0), x2, some (.d (.lst [.bl true, .bl true, .bl true, .bl true])), x4, x5, x6, x7, x8, x9, x10, x11, x12, x13, x14, x15, x16, x17, x18, x19] S = .ok (.own [.bl true, .bl true, .bl true, .bl true]) S := by
    refine lc_ok (xs := [.int 1, .int 0, .non, .str "x"]) (fun _ => .bl true) rfl (fun x hx => ⟨_, rfl, rfl, ?_⟩) (show 4 < line by decide)
    exact rf _ _ _ _ _ (refused_sl (n := 1) x hx)
  have add : cBin .Add (cV 3) (cLc (wE_ (cLst [.p (cK (.int 1)), .p (cK (.int 0)), .p (cK .non), .p (cK (.str "x"))])) (.n 18) tTr (cFn GG R5 20 4 [false, false, false, false] [cK (.str "each"), cK (.int 0), cV 18, cK (.int 1)]) [18]) [x0, some (.ref 0), x2, some (.d (.lst [.bl true, .bl true, .bl true, .bl true])), x4, x5, x6, x7, x8, x9, x10, x11, x12, x13, x14, x15, x16, x17, x18, x19] S = .ok (.own [.bl true, .bl true, .bl true, .bl true, .bl true, .bl true, .bl true, .bl true]) S := by
    unfold cBin
    rw [show cV 3 [x0, some (.ref 0), x2, some (.d (.lst [.bl true, .bl true, .bl true, .bl true])), x4, x5, x6, x7, x8, x9, x10, x11, x12, x13, x14, x15, x16, x17, x18, x19] S = .ok (.d (.lst [.bl true, .bl true, .bl true, .bl true])) S from rfl, bind_ok, lc3]
    rfl
  have s2 : l2 R5 [x0, some (.ref 0), x2, x3, x4, x5, x6, x7, x8, x9, x10, x11, x12, x13, x14, x15, x16, x17, x18, x19] S = .nx [x0, some (.ref 0), x2, some (.d (.lst [.bl true, .bl true, .bl true, .bl true])), x4, x5, x6, x7, x8, x9, x10, x11, x12, x13, x14, x15, x16, x17, x18, x19] S := st_ok lc2
  have s3 : l3 R5 [x0, some (.ref 0), x2, some (.d (.lst [.bl true, .bl true, .bl true, .bl true])), x4, x5, x6, x7, x8, x9, x10, x11, x12, x13, x14, x15, x16, x17, x18, x19] S = .nx [x0, some (.ref 0), x2, some (.d (.lst [.bl true, .bl true, .bl true, .bl true, .bl true, .bl true, .bl true, .bl true])), x4, x5, x6, x7, x8, x9, x10, x11, x12, x13, x14, x15, x16, x17, x18, x19] S := st_ok add
  have s4 : l4 R5 [x0, some (.ref 0), x2, some (.d (.lst [.bl true, .bl true, .bl true, .bl true, .bl true, .bl true, .bl true, .bl true])), x4, x5, x6, x7, x8, x9, x10, x11, x12, x13, x14, x15, x16, x17, x18, x19] S = .nx [x0, some (.ref 0), x2, some (.d (.lst [.bl true, .bl true, .bl true, .bl true, .bl true, .bl true, .bl true, .bl true])), some (.d (Wd.I ⟨true, some 0, some 0, none, false⟩)), x5, x6, x7, x8, x9, x10, x11, x12, x13, x14, x15, x16, x17, x18, x19] S := by kernel_rfl
  have s5 : l5 R5 [x0, some (.ref 0), x2, some (.d (.lst [.bl true, .bl true, .bl true, .bl true, .bl true, .bl true, .bl true, .bl true])), some (.d (Wd.I ⟨true, some 0, some 0, none, false⟩)), x5, x6, x7, x8, x9, x10, x11, x12, x13, x14, x15, x16, x17, x18, x19] S = .nx [x0, some (.ref 0), x2, some (.d (.lst [.bl true, .bl true, .bl true, .bl true, .bl true, .bl true, .bl true, .bl true])), some (.d (Wd.I ⟨true, some 0, some 0, none, false⟩)), x5, x6, x7, x8, x9, x10, x11, x12, x13, x14, x15, x16, x17, x18, x19] S := by kernel_rfl
  rw [bk_nx s1, bk_nx s2, bk_nx s3, bk_nx s4, bk_nx s5]
  kernel_rfl
/-- the loop -/
theorem loop_ok {S : Store} (hS : IsH S) : ∃ (x0 x2 x3 x4 x5 x6 x7 x8 x9 x10 x11 x12 x13 x14 x15 x16 x17 x18 x19 : Option W) (S' : Store), l0 R5 (none :: some (.ref 0) :: List.replicate 18 none) S = .nx [x0, some (.ref 0), x2, x3, x4, x5, x6, x7, x8, x9, x10, x11, x12, x13, x14, x15, x16, x17, x18, x19] S' := by
  have hi : wRg [.p (cK (.int 8))] (none :: some (.ref 0) :: List.replicate 18 none) S = .ok (.fix [.int 0, .int 1, .int 2, .int 3, .int 4, .int 5, .int 6, .int 7]) S := by kernel_rfl
  obtain ⟨σ', S', h1, h2⟩ := for_inv (g := CG.go (.n 2)) (B := fun σ S => sBk [l0_0 R5, l0_1 R5, l0_2 R5, l0_3 R5, l0_4 R5, l0_5 R5, l0_6 R5, l0_7 R5, l0_8 R5, l0_9 R5, l0_10 R5, l0_11 R5, l0_12 R5] σ S) (xs := [.int 0, .int 1, .int 2, .int 3, .int 4, .int 5, .int 6, .int 7])
    (fun σ S => IsH S ∧ ∃ x0 x2 x3 x4 x5 x6 x7 x8 x9 x10 x11 x12 x13 x14 x15 x16 x17 x18 x19 : Option W, σ = [x0, some (.ref 0), x2, x3, x4, x5, x6, x7, x8, x9, x10, x11, x12, x13, x14, x15, x16, x17, x18, x19]) [] _ 9 rfl rfl
    (fun x hx σ S hp => by
      obtain ⟨hS, x0, x2, x3, x4, x5, x6, x7, x8, x9, x10, x11, x12, x13, x14, x15, x16, x17, x18, x19, rfl⟩ := hp
      obtain ⟨w, u, p, q, y14, y15, S', h, e⟩ := turn_ok (x0 := x0) (x2 := some (.d x)) (x3 := x3) (x4 := x4) (x5 := x5) (x6 := x6) (x7 := x7) (x8 := x8) (x9 := x9) (x10 := x10) (x11 := x11) (x12 := x12) (x13 := x13) (x14 := x14) (x15 := x15) (x16 := x16) (x17 := x17) (x18 := x18) (x19 := x19) hS
      exact ⟨_, rfl, _, S', e, h, _, _, _, _, _, _, _, _, _, _, _, _, _, _, _, _, _, _, _, rfl⟩)
    (none :: some (.ref 0) :: List.replicate 18 none) S ⟨hS, none, none, none, none, none, none, none, none, none, none, none, none, none, none, none, none, none, none, none, rfl⟩
  obtain ⟨_, x0, x2, x3, x4, x5, x6, x7, x8, x9, x10, x11, x12, x13, x14, x15, x16, x17, x18, x19, rfl⟩ := h2
  refine ⟨x0, x2, x3, x4, x5, x6, x7, x8, x9, x10, x11, x12, x13, x14, x15, x16, x17, x18, x19, S', ?_⟩
  unfold l0 sFr
  rw [hi, lift_ok]
  exact h1
theorem law_ok {S : Store} (hS : IsH S) : ∃ S', rLaw R5 (none :: some (.ref 0) :: List.replicate 18 none) S = .rt (.d (.bl true)) S' := by
  obtain ⟨x0, x2, x3, x4, x5, x6, x7, x8, x9, x10, x11, x12, x13, x14, x15, x16, x17, x18, x19, S1, h⟩ := loop_ok hS
  obtain ⟨S', e⟩ := tail_ok (S := S1) (x0 := x0) (x2 := x2) (x3 := x3) (x4 := x4) (x5 := x5) (x6 := x6) (x7 := x7) (x8 := x8) (x9 := x9) (x10 := x10) (x11 := x11) (x12 := x12) (x13 := x13) (x14 := x14) (x15 := x15) (x16 := x16) (x17 := x17) (x18 := x18) (x19 := x19)
  exact ⟨S', by rw [rLaw_eq, bk_nx h, e]⟩
end Ev.K03
set_option Elab.async false
set_option linter.all false
set_option maxRecDepth 100000
set_option maxHeartbeats 0
namespace Ev.K03
open PySem PySem.Spec PyProof.Rows L2
abbrev RW : PySem.W.OpenRow := PySem.W.OpenLaw.row PySem.Challenge.rw_answerparts_k03_worlds
def t0 : Tx := tx kps
def fnA0 : List DefA := es.map DE.defA
abbrev hk : PySem.W.Hook := hookA 6 t0.B fnA0 t0.erA
def ob (s : PySem.W.SharedT) : He.AlD := obsAG 6 t0.B fnA0 t0.erA (HandSHeadRun.getT s)
theorem ob_eq (s : PySem.W.SharedT) : ob s = hk.obs s.abs := obsAG_eq (HandSHeadRun.getT_eq s)
def loose : List PySem.Str := ["AnswerError", "InvalidWorld", "WorldError", "is_from", "MAX_NUMBER", "MODES", "is_number", "is_most", "greater", "World", "_law_mix", "_law_next", "_law_alike", "_law_world", "_law_made", "_law_number", "_law_refused", "_law_joined"]
theorem run (w : World) : HandSHeadRun.RunEq RW (PySem.W.view RW.prog [22]) hk ob 4000 loose w := by
  intro os
  kernel_rfl
end Ev.K03
set_option Elab.async false
set_option linter.all false
set_option maxRecDepth 100000
set_option maxHeartbeats 2000000
namespace Ev.K03
open PySem PySem.Spec PyProof.Rows L2
/-! ## _law_mix, by hand -/
def spMix (K : PySem.W.Frag) : Sp := fun vs H Q _ => ∃ (a : Addr) (ns : List Int) (seed : Int), vs = [.ref a, .int seed] ∧ SqL K H a (ns.map V.int) ∧ ns.length ≤ 63 ∧ 0 ≤ seed ∧ seed < 2147483647 ∧
  ∀ q p : Addr, H q = none → (upd H q (.lst (ns.map V.int))) p = none → Q (.ref p) (upd (upd H q (.lst (ns.map V.int))) p (.lst [.int (ns.foldl mixI seed), .ref q, .int 0]))
theorem mix_lt {s c : Int} : 0 ≤ mixI s c ∧ mixI s c < 2147483647 := ⟨Int.emod_nonneg _ (by decide), Int.emod_lt_of_pos _ (by decide)⟩
abbrev sMix : Stmt := d14.st
theorem ok_mix {P : Program} {w : World} {K : PySem.W.Frag} {mg : Str → Option Value} {base : Heap} {f : Addr} {fd : FuncData} (F : FunD K d14.name d14.qual (defArgs sMix) (defBody sMix) (defScope sMix) [] [] f fd) (gI : mg "int" = none) (gL : mg "list" = none) :
    FnOk P w K mg base (L2.CX P w) 1 f fd d14.ps (spMix K) := by
  refine F.ok (N := d14.N) (scB_ok (scs d14 (by simp [es]))) (fun vs H Q E h => ?_) (fun cdv A outer s H vs Q E hr h => ?_)
  · obtain ⟨a, ns, seed, rfl, _⟩ := h
    rfl
  · refine ⟨_, pss_cons (ps_set (i := 2) (scB_ok (scs d14 (by simp [es]))).nd rfl (.inl rfl) (pv 1)) (pss_cons (ps_for (passes_of rfl) rfl (pi_list (pv 0)) (pg_name (i := 3) (scB_ok (scs d14 (by simp [es]))).nd rfl (.inl rfl))
      (pss_one (ps_set (i := 2) (scB_ok (scs d14 (by simp [es]))).nd rfl (.inl rfl) (pe_op op_mod (pe_callTy call_int1 rfl gI (by decide +kernel) (pa_cons (pe_op op_add (pe_op op_add (pe_op op_mul (pv 2) pe_int) (pe_op op_mod (pe_callTy call_int1 rfl gI (by decide +kernel) (pa_cons (pv 3) pa_nil)) pe_int)) pe_int) pa_nil)) pe_int))))
      (pss_one (ps_ret (pe_lst (pa_cons (pv 2) (pa_cons (pe_callTy call_list_of rfl gL (by decide +kernel) (pa_cons (pv 0) pa_nil)) (pa_cons pe_int pa_nil))))))), ?_⟩
    obtain ⟨a, ns, seed, rfl, hS, hl, h0, h1, hQ⟩ := h
    refine ⟨.int seed, rfl, .ref a, rfl, a, rfl, ⟨_, hS⟩, for_list (xs := ns.map V.int) (fun i σ H' => H' = H ∧ ∃ cell, σ = [some (.ref a), some (.int seed), some (.int ((ns.take i).foldl mixI seed)), cell]) ⟨rfl, none, rfl⟩ (fun i σ H' _ z => by rw [z.1]; exact hS) (fun i x σ H' hx z => ?_) fun σ H' z => ?_⟩
    · obtain ⟨rfl, cell, rfl⟩ := z
      rw [List.getElem?_map] at hx
      cases hc : ns[i]? with
      | none =>
        rw [hc] at hx
        cases hx
      | some n =>
        rw [hc] at hx
        cases hx
        have e : (ns.take (i + 1)).foldl mixI seed = mixI ((ns.take i).foldl mixI seed) n := by
          rw [List.take_add_one, hc, List.foldl_append]
          rfl
        refine ⟨_, rfl, _, _, rfl, rfl, .inr ⟨by decide, by decide⟩, _, rfl, .inl ⟨_, rfl, _, _, rfl, rfl, show (0 : Int) < 2147483629 by decide, _, _, rfl, rfl, _, _, rfl, rfl, .inl ⟨_, rfl, _, _, rfl, rfl, show (0 : Int) < 2147483647 by decide, rfl, some (.int n), ?_⟩⟩⟩
        rw [e]
        rfl
    · obtain ⟨rfl, cell, rfl⟩ := z
      rw [List.length_map, List.take_length]
      refine ⟨_, rfl, _, rfl, a, _, rfl, .inl hS, fun q hq => ⟨by show 3 ≤ sizeLine; rw [sizeLine_eq]; decide, fun p hp => hQ q p hq hp⟩⟩
end Ev.K03
namespace Ev.K03
open PySem PySem.Spec PyProof.Rows L2
abbrev sLaw : Stmt := d22.st
theorem ok_law {T : Txt} (tx : T.Ok) (tg : T.Gl) {f fM : Addr} {fd fdM : FuncData} (F : FunD T.c.K d22.name d22.qual (defArgs sLaw) (defBody sLaw) (defScope sLaw) [] [] f fd) (FM : FunD T.c.K d14.name d14.qual (defArgs sMix) (defBody sMix) (defScope sMix) [] [] fM fdM)
    (gM : T.mg "_law_mix" = some (.ref fM)) (gI : T.mg "int" = none) (gL : T.mg "list" = none) (n : Nat)
    (main : ∀ ns : List Int, ns.length ≤ 63 → ∃ S', (ev T.G T.kps n).B ⟨d22.N, defScope sLaw, d22.cells, []⟩ (none :: some (.ref 0) :: List.replicate (d22.N.length - 2) none) ((defBody sLaw).tail) (law0 (ns.foldl mixI 3) ns) = .rt (.d (.bl true)) S') :
    FnOk T.P T.w T.c.K T.mg T.base (L2.CX T.P T.w) (2 * n + 2) f fd d22.ps (spLaw T.c.K) := by
  have GM : FnOk T.P T.w T.c.K T.mg T.base (L2.CX T.P T.w) (2 * n + 1) fM fdM d14.ps (spMix T.c.K) := (ok_mix FM gI gL).mono (by omega)
  have bM : Binds T.c.K fdM d14.ps [] := FunD.bindsN FM b14.2
  refine F.ok (N := d22.N) (scB_ok (scs d22 (by simp [es]))) (fun vs H Q E h => ?_) (fun cdv A outer s H vs Q E hr h => ?_)
  · obtain ⟨a, ns, rfl, _⟩ := h
    rfl
  · have cx : CtxOk T ⟨d22.N, defScope sLaw, d22.cells, []⟩ (cxOf (L2.CX T.P T.w) T.P T.w T.c.K T.mg T.base d22.N d22.qual (defScope sLaw) f cdv A outer s H E) (fun cls d _ H' => E cls d H') (2 * n) := by
      refine ⟨⟨rfl, rfl, rfl, (scB_ok (scs d22 (by simp [es]))).nd, rfl, ?_, fun _ => .inl rfl, tg.glv, tg.bi⟩, takes_of rfl rfl rfl rfl, passes_of rfl, rfl, rfl, rfl, rfl, hr.mono (by omega), fun _ => ⟨rfl, rfl⟩⟩
      have := hr.un
      show (A.deeper _).units + 64 < cLine
      omega
    refine ⟨_, pss_cons (ps_set (i := 1) (scB_ok (scs d22 (by simp [es]))).nd rfl (.inl rfl) (pe_call (E := fun _ _ _ => False) GM hr rfl gM FM.kp bM .nil (fun _ _ _ _ _ _ _ z => by
      obtain ⟨_, _, _, _, _, _, _, _, _, _, _, _, z⟩ := z
      exact z.elim) (pa_cons (pv 0) (pa_cons pe_int pa_nil)))) ((ev_ok tx tg n _ _ _ cx).2.2 (defBody sLaw).tail), ?_⟩
    obtain ⟨a, ns, rfl, hS, hl, hQ⟩ := h
    obtain ⟨S', hm⟩ := main ns hl
    refine ⟨_, rfl, a, ns, 3, rfl, hS, hl, by decide, by decide, fun q p hq hp => ?_⟩
    exact law_end hq hp hm hQ
end Ev.K03
set_option Elab.async false
set_option linter.all false
set_option maxRecDepth 100000
set_option maxHeartbeats 0
namespace Ev.K03
open PySem PySem.Spec PyProof.Rows L2
theorem law_cx0 {P : Program} {w : World} {K : PySem.W.Frag} {mg : Str → Option Value} {base : Heap} {k : Nat} {f : Addr} {fd : FuncData} {ps : List Str} (F : FnOk P w K mg base (L2.CX P w) k f fd ps (spLaw K)) : FnOk P w K mg base L2.CX0 k f fd ps (spLaw K) :=
  ⟨F.len, fun A outer s H args us vs Q E hr e0 hb hv hsp => codeAny_mono (F.run A outer s H args us vs Q (fun _ _ _ => False) hr e0 hb hv hsp) fun r s' h => by
    cases r with
    | error e =>
      obtain ⟨_, _, _, _, _, _, _, _, _, _, _, _, z⟩ := h
      exact z.elim
    | ok fl =>
      cases fl with
      | ret v => exact h
      | next => exact h.elim
      | brk => exact h.elim
      | cont => exact h.elim⟩
theorem nm1 : (tx kps).names.lookup (("_law_mix" : PySem.Str)) = (some (GV.fn 14) : Option GV) := by kernel_rfl
theorem nm2 : (tx kps).names.lookup (("int" : PySem.Str)) = (none : Option GV) := by decide +kernel
theorem nm3 : (tx kps).names.lookup (("list" : PySem.Str)) = (none : Option GV) := by decide +kernel
theorem nm4 : (tx kps).names.lookup (("law" : PySem.Str)) = (some (GV.fn 22) : Option GV) := by kernel_rfl
theorem room_main {n : Nat} (hn : n ≤ 110) : L2.Room (2 * n + 2) callerA := by
  have e1 : callerA.depth = 301 := by decide +kernel
  have e2 : recursionLimit = 1000 := by decide +kernel
  have e3 : callerA.units = 4 := by decide +kernel
  have e4 : cLine = 9900 := by decide +kernel
  exact ⟨rfl, by omega, by omega⟩
def Main (n : Nat) : Prop := ∀ ns : List Int, ns.length ≤ 63 → ∃ S', (ev (tx kps).G kps n).B ⟨d22.N, defScope sLaw, d22.cells, []⟩ (none :: some (.ref 0) :: List.replicate (d22.N.length - 2) none) ((defBody sLaw).tail) (law0 (ns.foldl mixI 3) ns) = .rt (.d (.bl true)) S'
def txt (K : PySem.W.Frag) (w : World) (mg : Str → Option Value) (base : Heap) : Txt := ⟨(tx kps).cs K, (tx kps).G, kps, PySem.Challenge.pw_answerparts_k03_worlds, w, mg, base, (tx kps).fa K, (tx kps).fd K, fun _ => []⟩
theorem txt_ok {K : PySem.W.Frag} {w : World} {mg : Str → Option Value} {base : Heap} (c : SaysA t0.B fnA0 t0.erA K) (X : K.In base) (Gn : base.Ns mainGlobals mg) : (txt K w mg base).Ok ∧ (txt K w mg base).Gl := by
  obtain ⟨g1, g2⟩ := Tx.gl (t := tx kps) c X Gn
  have gi := Tx.gi (t := tx kps) (ok kps) c
  exact ⟨⟨Tx.gs (ok kps) c X Gn, gi, gk c, Tx.gx (t := tx kps) (erOk kps) c X Gn rfl (show (PySem.Challenge.pw_answerparts_k03_worlds.main.scope.names.lookup ("super" : PySem.Str)).isSome = false by decide +kernel), Tx.ge (t := tx kps) c gi⟩, ⟨g1, g2⟩⟩
theorem lawFn {n : Nat} (main : Main n) {K : PySem.W.Frag} {w : World} {mg : Str → Option Value} {base : Heap} (c : SaysA t0.B fnA0 t0.erA K) (X : K.In base) (Gn : base.Ns mainGlobals mg) :
    FnOk PySem.Challenge.pw_answerparts_k03_worlds w K mg base (L2.CX PySem.Challenge.pw_answerparts_k03_worlds w) (2 * n + 2) ((tx kps).fa K 22) ((tx kps).fd K 22) d22.ps (spLaw K) := by
  obtain ⟨ok, gl⟩ := txt_ok (w := w) c X Gn
  have F := Tx.fun_ (t := tx kps) c (i := 22) (d := d22) rfl
  have FM := Tx.fun_ (t := tx kps) c (i := 14) (d := d14) rfl
  exact ok_law (T := txt K w mg base) ok gl F FM (ok.gs.mgf "_law_mix" 14 nm1) (gl.bi "int" nm2 (by decide)) (gl.bi "list" nm3 (by decide)) n main
end Ev.K03
open PySem PySem.W PySem.Calls PyProof.Rows
theorem k03_of (n : Nat) (hn : n ≤ 110) (main : Ev.K03.Main n) : PySem.Challenge.rw_answerparts_k03_worlds.Holds := by
  w_on; o_law
  refine HandSHeadRun.head_any (r := OpenLaw.row PySem.Challenge.rw_answerparts_k03_worlds) (q := view (OpenLaw.row PySem.Challenge.rw_answerparts_k03_worlds).prog [22]) (H := Ev.K03.hk) (ob := Ev.K03.ob) (M := 4000) (loose := Ev.K03.loose) (d := HandSHeadRun.topDef (OpenLaw.row PySem.Challenge.rw_answerparts_k03_worlds).prog 22) (kwd := []) Ev.K03.ob_eq
    (by kernel_rfl) (fun s => by kernel_rfl) Ev.K03.run (by kernel_rfl) (by kernel_rfl) (by kernel_rfl) (by rfl) (by first | assumption | decide +kernel) (by decide +kernel) ⟨rfl, rfl, rfl, rfl, rfl, by decide +kernel⟩ ?hw ?hc
  case hw => w_witness2
  case hc =>
    refine L2.walk_ofE (l := PySem.Challenge.rw_answerparts_k03_worlds) (n := 63) (k := 2 * n + 2) (x := "_law_script") (CX := L2.CX0) rfl (by decide) (by kernel_rfl) (Ev.K03.room_main hn) ?F (fun _ _ _ _ z => z)
    case F =>
      intro w mg fa h Y G hmg0
      obtain ⟨K, KX, c⟩ := Y
      have hmg : mg ("law" : PySem.Str) = some (.ref fa) := by
        have e : (HandSHeadRun.topDef (OpenLaw.row PySem.Challenge.rw_answerparts_k03_worlds).prog 22).name = ("law" : PySem.Str) := by kernel_rfl
        rw [← e]
        exact hmg0
      have gs := Ev.Tx.gs (Ev.K03.ok Ev.K03.kps) c KX G
      have e := hmg.symm.trans (gs.mgf "law" 22 Ev.K03.nm4)
      cases e
      have F := Ev.Tx.fun_ (t := Ev.K03.tx Ev.K03.kps) c (i := 22) (d := Ev.K03.d22) rfl
      have b := L2.FunD.bindsA (ps := ["_law_script"]) F Ev.K03.b22.2
      exact ⟨K, (Ev.K03.tx Ev.K03.kps).fd K 22, Ev.spLaw K, KX, fun s v => b s [v] rfl, fun H a ns hl _ hS => ⟨a, ns, rfl, hS, hl, fun _ => rfl⟩, fun base X Gn => Ev.K03.law_cx0 (Ev.K03.lawFn main c X Gn)⟩
set_option linter.all false
set_option maxRecDepth 100000
set_option maxHeartbeats 0
namespace Ev.K03
open PySem
theorem main_ok : Main 6 := by
  intro ns hl
  obtain ⟨S', e⟩ := law_ok (S := stH (ns.foldl mixI 3) 0 ns) ⟨_, _, ns, hl, rfl⟩
  refine ⟨S', ?_⟩
  show (evS GG kps R5 64).B ⟨d22.N, L2.defScope d22.st, d22.cells, []⟩ (none :: some (.ref 0) :: List.replicate 18 none) (L2.defBody d22.st).tail (stH (ns.foldl mixI 3) 0 ns) = _
  rw [qLaw]
  exact e
end Ev.K03
theorem k03_whole : PySem.Challenge.rw_answerparts_k03_worlds.Holds := k03_of 6 (by decide) Ev.K03.main_ok
theorem PySem.Challenge.cw_answerparts_k03_worlds_holds : PySem.Challenge.rw_answerparts_k03_worlds.Holds := by
  exact k03_whole
