import PyProof.Rows.All
import Wide.All
import OpenK.AllK
import Wide.FinOn
import HandS.ForMost
import HandS.ForExc
import HandS.Wide
import HandS.Deep
import HandS.TupAny
import HandS.IsInst
import HandS.Codes
import HandS.Style
import HandS.TryOnly
import HandS.TupMul
import HandS.SortInts
import HandS.ExcIs
import HandS.Flow
import KE.KExcSuper
import HandS.ExcInit
import HandS.More
import HandS.Dict
import KE.KTupSum
import KE.DataMinMax
import HandS.Iter
import HandS.Zip
import KE.GoesEnum
import HandS.Conv
import PySem.Challenge.RW_drawnhigher_k28_whole_sums_that_keep_rat
set_option Elab.async false
set_option linter.all false
set_option maxRecDepth 100000
/-! A plain interpreter of a small part of Python over data as values. -/
namespace Py
open PySem

abbrev D := PyData
/-- an exception: its class's name, its fields -/
structure Exc where
  cls : Str
  flds : List (Str × D)
/-- the row that numbers are drawn from -/
structure DS where
  cells : List Int
  at_ : Int
  cur : Int
  seed : Int
inductive Res (α : Type) where
  | ok (a : α) (s : DS) | exc (x : Exc) (s : DS) | fail
def M (α : Type) := DS → Res α
def M.pure {α : Type} (a : α) : M α := fun s => .ok a s
def M.bind {α β : Type} (m : M α) (k : α → M β) : M β := fun s => match m s with
  | .ok a s' => k a s'
  | .exc x s' => .exc x s'
  | .fail => .fail
instance : Monad M where
  pure := M.pure
  bind := M.bind
def fail {α : Type} : M α := fun _ => .fail
def throwX {α : Type} (x : Exc) : M α := fun s => .exc x s
def need (b : Bool) : M Unit := if b = true then pure () else fail
def nextS (s : DS) : DS :=
  if s.cur = 0 then
    if s.at_ + 1 < (s.cells.length : Int) ∧ s.cells.getD (s.at_ + 1).toNat 0 ≠ 0 then { s with at_ := s.at_ + 1, cur := s.cells.getD (s.at_ + 1).toNat 0 }
    else { s with at_ := s.at_ + 1, seed := (s.seed * 48271 + 11) % 2147483647, cur := (s.seed * 48271 + 11) % 2147483647 }
  else s
/-- a number from 0 to many - 1 -/
def take (many : Int) : M D := fun s =>
  if 0 < many ∧ many.natAbs.log2 < 9000 ∧ -1 ≤ s.at_ ∧ 0 ≤ s.seed ∧ s.seed < 2147483647 then .ok (.int ((nextS s).cur % many)) { nextS s with cur := (nextS s).cur / many }
  else .fail

/-! ### the surroundings -/
structure Flg where
  fr : Bool       -- gives a fresh list
  fl : Bool       -- gives data without lists
structure Gs where
  cst : Str → Option D            -- the module's constants
  fns : Str → Option Flg          -- the module's defs
  call : Str → List D → M D       -- what they do
  bare : Str → Bool               -- names that the module leaves to the built-ins
  exc : Str → Bool                -- exception classes, made with a text
  ini : Str → Bool                -- those that keep the text in a field
  sub : Str → Str → Option Bool   -- is it a class under another
structure Cxt where
  N : List Str
  sc : Scope      -- the scope that runs
  st : Scope      -- the scope as it is written
abbrev Sl := Option (D × Bool)
abbrev St := List Sl

def kindL (sc : Scope) (x : Str) : Bool := match sc.names.lookup x with
  | some .local => true | some .cell => true | some .free => true | _ => false
def kindG (sc : Scope) (x : Str) : Bool := match sc.names.lookup x with
  | some .globalImplicit => true | _ => false
def slot (Γ : Cxt) (x : Str) : Option Nat := if kindL Γ.sc x = true then Γ.N.idxOf? x else none
def okName (x : Str) : Bool := !(x == ("__debug__" : Str)) && !(x == ("__classdict__" : Str)) && !(x == ("__name__" : Str))

mutual
/-- no list, no dict within -/
def flat : D → Bool
  | .none => true | .bool _ => true | .int _ => true | .str _ => true
  | .tuple ds => flats ds
  | .list _ => false | .dict _ => false
def flats : List D → Bool
  | [] => true
  | d :: ds => flat d && flats ds
end
def capD : D := .dict [(.none, .none)]
/-- a key: a number, a text -/
def keyD : D → Option L2.Key
  | .int i => some (.inl i)
  | .str x => some (.inr x)
  | _ => none
def dAt (k : L2.Key) : List (D × D) → Option D
  | [] => none
  | p :: r => if keyD p.1 = some k then some p.2 else dAt k r
def dOk (kvs : List (D × D)) : Bool := kvs.all fun p => (keyD p.1).isSome
def dPut (kvs : List (D × D)) (k d : D) : List (D × D) :=
  if (kvs.any fun p => decide (keyD p.1 = keyD k)) = true then kvs.map (fun p => if keyD p.1 = keyD k then (p.1, d) else p) else kvs ++ [(k, d)]

/-! ### operators by values -/
def sline : Nat := 16777216
def cut {α : Type} (xs : List α) (lo hi : Option Int) : List α :=
  (xs.drop (HT.sIx xs.length 0 lo)).take (HT.sIx xs.length xs.length hi - HT.sIx xs.length 0 lo)
def binop : Operator → D → D → M D
  | .Add, .int i, .int j => pure (.int (i + j))
  | .Sub, .int i, .int j => pure (.int (i - j))
  | .Mult, .int i, .int j => if i.natAbs.log2 + j.natAbs.log2 < 1000000 then pure (.int (i * j)) else fail
  | .FloorDiv, .int i, .int j => if 0 < j ∧ j.natAbs.log2 < 9000 then pure (.int (i / j)) else
      if j < 0 ∧ j.natAbs.log2 < 9000 then pure (.int (i.fdiv j)) else fail
  | .Mod, .int i, .int j => if 0 < j then pure (.int (i % j)) else fail
  | .Add, .str a, .str b => if a.length + b.length ≤ sline then pure (.str (a ++ b)) else fail
  | .Add, .list a, .list b => if a.length + b.length ≤ sline then pure (.list (a ++ b)) else fail
  | .Add, .tuple a, .tuple b => if a.length + b.length ≤ sline then pure (.tuple (a ++ b)) else fail
  | .Mult, .list a, .int k => if k < 2 ^ 62 ∧ -(2 ^ 62) ≤ k ∧ a.length * k.toNat ≤ sline then pure (.list (List.replicate k.toNat a).flatten) else fail
  | .Mult, .tuple a, .int k => if a ≠ [] ∧ 2 ≤ k ∧ k ≤ 1000 ∧ a.length ≤ 1000 then pure (.tuple (List.replicate k.toNat a).flatten) else if a ≠ [] ∧ k = 1 then pure (.tuple a) else fail
  | .Sub, .bool a, .bool b => pure (.int ((if a then 1 else 0) - (if b then 1 else 0)))
  | _, _, _ => fail
def eqD (x y : D) : M Bool := if SeqAt.shaped x = true ∧ SeqAt.shaped y = true then pure (PyData.eqv x y) else fail
def inD (x y : D) : M Bool := match x, y with
  | x, .list ds => if SeqAt.shaped x = true ∧ SeqAt.shaped (.list ds) = true then pure (ds.any fun z => PyData.eqv z x) else fail
  | x, .tuple ds => if SeqAt.shaped x = true ∧ SeqAt.shaped (.tuple ds) = true then pure (ds.any fun z => PyData.eqv z x) else fail
  | .str a, .str z => if a.cps.size = 1 then pure (decide (a.cps.getD 0 0 ∈ z.cps.toList)) else fail
  | .str a, .dict kvs => if dOk kvs = true then pure (dAt (.inr a) kvs).isSome else fail
  | _, _ => fail
def cmpop : CmpOp → D → D → M Bool
  | .Eq, x, y => eqD x y
  | .NotEq, x, y => do let b ← eqD x y; pure (!b)
  | .Lt, .int i, .int j => pure (decide (i < j))
  | .LtE, .int i, .int j => pure (decide (i ≤ j))
  | .Gt, .int i, .int j => pure (decide (j < i))
  | .GtE, .int i, .int j => pure (decide (j ≤ i))
  | .Is, x, .none => match x with
    | .none => pure true
    | _ => pure false
  | .IsNot, x, .none => match x with
    | .none => pure false
    | _ => pure true
  | .Is, .bool a, .bool b => pure (a == b)
  | .IsNot, .bool a, .bool b => pure (!(a == b))
  | .In, x, y => inD x y
  | .NotIn, x, y => do let b ← inD x y; pure (!b)
  | _, _, _ => fail
def getD' (x i : D) : M D := match x, i with
  | .list ds, .int i => match L2.atI ds i with
    | some d => pure d
    | none => fail
  | .tuple ds, .int i => match L2.atI ds i with
    | some d => pure d
    | none => fail
  | .str z, .int i => match L2.atI z.cps.toList i with
    | some c => if z.length ≤ sline then pure (.str ⟨#[c]⟩) else fail
    | none => fail
  | .dict kvs, .int i => match dAt (.inl i) kvs with
    | some d => pure d
    | none => fail
  | .dict kvs, .str a => match dAt (.inr a) kvs with
    | some d => pure d
    | none => fail
  | _, _ => fail
def getS (x : D) (lo hi : Option Int) : M D := match x with
  | .list ds => pure (.list (cut ds lo hi))
  | .tuple ds => pure (.tuple (cut ds lo hi))
  | .str z => if z.length ≤ sline then pure (.str (L2.cutS z lo hi)) else fail
  | _ => fail
/-- the step -1 -/
def isM1 : Expr → Bool
  | .UnaryOp .USub (.Constant (.int 1) _ _) _ => true
  | _ => false
/-- x[::-1] -/
def revD : D → M D
  | .list ds => pure (.list ds.reverse)
  | .tuple ds => pure (.tuple ds.reverse)
  | _ => fail
def asBool : D → M Bool
  | .bool b => pure b
  | _ => fail
def asInt : D → M Int
  | .int i => pure i
  | _ => fail
def intsOf : List D → Option (List Int)
  | [] => some []
  | .int i :: ds => (intsOf ds).map (i :: ·)
  | _ :: _ => none
def boolsOf : List D → Option (List Bool)
  | [] => some []
  | .bool i :: ds => (boolsOf ds).map (i :: ·)
  | _ :: _ => none
def strsOf : List D → Option (List Str)
  | [] => some []
  | .str i :: ds => (strsOf ds).map (i :: ·)
  | _ :: _ => none
def itemsOf : D → Option (List D)
  | .list ds => some ds
  | .tuple ds => some ds
  | _ => none
def maxI : List Int → Int
  | [] => 0
  | x :: r => r.foldl max x
def minI : List Int → Int
  | [] => 0
  | x :: r => r.foldl min x
/-- the built-in functions that make a new list -/
def frB (f : Str) : Bool := decide (f = ("list" : Str)) || decide (f = ("sorted" : Str))
def sortI (ns : List Int) : List Int := ns.mergeSort (fun a b => decide (a ≤ b))
/-- the built-in functions -/
def bi (f : Str) (xs : List D) : M D :=
  if f = ("len" : Str) then match xs with
    | [.list ds] => pure (.int ds.length)
    | [.tuple ds] => pure (.int ds.length)
    | [.str z] => if z.length ≤ sline then pure (.int z.length) else fail
    | _ => fail
  else if f = ("sum" : Str) then match xs with
    | [x] => match (itemsOf x).bind intsOf with
      | some ns => pure (.int ns.sum)
      | none => fail
    | _ => fail
  else if f = ("abs" : Str) then match xs with
    | [.int i] => pure (.int (if i < 0 then -i else i))
    | _ => fail
  else if f = ("max" : Str) then match xs with
    | [.int i, .int j] => pure (.int (if j > i then j else i))
    | [x] => match (itemsOf x).bind intsOf with
      | some (n :: ns) => pure (.int (maxI (n :: ns)))
      | _ => fail
    | _ => fail
  else if f = ("min" : Str) then match xs with
    | [.int i, .int j] => pure (.int (if j < i then j else i))
    | [x] => match (itemsOf x).bind intsOf with
      | some (n :: ns) => pure (.int (minI (n :: ns)))
      | _ => fail
    | _ => fail
  else if f = ("int" : Str) then match xs with
    | [.int i] => pure (.int i)
    | [.bool b] => pure (.int (if b then 1 else 0))
    | _ => fail
  else if f = ("list" : Str) then match xs with
    | [.list ds] => pure (.list ds)
    | [.tuple ds] => pure (.list ds)
    | _ => fail
  else if f = ("tuple" : Str) then match xs with
    | [.list ds] => pure (.tuple ds)
    | [.tuple ds] => pure (.tuple ds)
    | _ => fail
  else if f = ("all" : Str) then match xs with
    | [.list ds] => match boolsOf ds with
      | some bs => pure (.bool (bs.all id))
      | none => fail
    | _ => fail
  else if f = ("any" : Str) then match xs with
    | [.list ds] => match boolsOf ds with
      | some bs => pure (.bool (bs.any id))
      | none => fail
    | _ => fail
  else if f = ("sorted" : Str) then match xs with
    | [.list ds] => match intsOf ds with
      | some ns => pure (.list ((sortI ns).map .int))
      | none => fail
    | _ => fail
  else fail
def biN (f : Str) : Bool := decide (f ∈ ([("len" : Str), ("sum" : Str), ("abs" : Str), ("max" : Str), ("min" : Str), ("int" : Str), ("list" : Str), ("tuple" : Str), ("all" : Str), ("any" : Str), ("sorted" : Str)] : List Str))
/-- isinstance(x, T) -/
def tyN : D → Option String
  | .none => some "NoneType" | .bool _ => some "bool" | .int _ => some "int" | .str _ => some "str" | .tuple _ => some "tuple" | .list _ => some "list" | .dict _ => none
def isiT (t : Str) : Option String :=
  if t = ("int" : Str) then some "int" else if t = ("bool" : Str) then some "bool" else if t = ("str" : Str) then some "str"
  else if t = ("tuple" : Str) then some "tuple" else if t = ("list" : Str) then some "list" else none
def isi (d : D) (t : Str) : Option Bool := match tyN d, isiT t with
  | some a, some b => some (a == b || (a == "bool" && b == "int"))
  | _, _ => none
/-- methods of texts with one argument -/
def meth1 (a : Str) (m : Str) (y : D) : M D :=
  if m = ("split" : Str) then match y with
    | .str b => if (b.length == 0) = false ∧ a.length + 2 ≤ sline then pure (.list ((Txt.split a b).map .str)) else fail
    | _ => fail
  else if m = ("partition" : Str) then match y with
    | .str b => if (b.length == 0) = false ∧ a.length ≤ sline then pure (.tuple [.str (Txt.partition a b).1, .str (Txt.partition a b).2.1, .str (Txt.partition a b).2.2]) else fail
    | _ => fail
  else if m = ("join" : Str) then match (itemsOf y).bind strsOf with
    | some ys => if (ys.map (·.length)).sum + ys.length * a.length ≤ 16777216 then pure (.str (Txt.join a ys)) else fail
    | none => fail
  else fail
def methD (x : D) (m : Str) (k : M D) : M D := match x with
  | .str a => do let y ← k; meth1 a m y
  | _ => fail
def methN (m : Str) : Bool := decide (m ∈ ([("split" : Str), ("partition" : Str), ("join" : Str)] : List Str))
/-- what stands ahead of a method's name -/
def plainO : Expr → Bool
  | .Call _ _ _ _ => false
  | _ => true

/-! ### expressions -/
def notStar : Expr → Bool
  | .Starred _ _ => false
  | _ => true
/-- no star among the arguments -/
def noStars (es : List Expr) : Bool := es.all notStar
def evs (f : Expr → M D) : List Expr → M (List D)
  | [] => pure []
  | e :: es => if notStar e = true then do let d ← f e; let ds ← evs f es; pure (d :: ds) else fail
def evPairs (f : Expr → M D) : List (Option Expr) → List Expr → M (List (D × D))
  | [], [] => pure []
  | some k :: ks, v :: vs => do let x ← f k; let y ← f v; let r ← evPairs f ks vs; pure ((x, y) :: r)
  | _, _ => fail
def loadE (G : Gs) (Γ : Cxt) (σ : St) (peek : Bool) (x : Str) : M D :=
  if okName x = true then
    match slot Γ x with
    | some i => match σ[i]? with
      | some (some (d, own)) => if (own = true ∧ peek = false) then fail else pure d
      | _ => fail
    | none => if kindG Γ.sc x = true then match G.cst x with
        | some d => pure d
        | none => fail
      else fail
  else fail
def evP (G : Gs) (Γ : Cxt) (σ : St) (f : Expr → M D) (e : Expr) : M D := match e with
  | .Name x _ => loadE G Γ σ true x
  | e => f e
def evO (f : Expr → M D) : Option Expr → M (Option Int)
  | none => pure none
  | some e => do let d ← f e; let i ← asInt d; pure (some i)
/-- an expression that may be a test -/
def noIf : Expr → Bool
  | .IfExp _ _ _ _ => false
  | _ => true
def tst (f : Expr → M D) (e : Expr) : M Bool := if noIf e = true then do let d ← f e; asBool d else fail
def andL (f : Expr → M D) : List Expr → M D
  | [] => fail
  | [e] => if noIf e = true then f e else fail
  | e :: es => do let b ← tst f e; if b = true then andL f es else pure (.bool false)
def orL (f : Expr → M D) : List Expr → M D
  | [] => fail
  | [e] => if noIf e = true then f e else fail
  | e :: es => do let b ← tst f e; if b = true then pure (.bool true) else orL f es
def cmp1 (x y : M D) (op : CmpOp) : M D := do
  let a ← x
  let b ← y
  let c ← cmpop op a b
  pure (.bool c)
def cmp2 (x y z : M D) (op op' : CmpOp) : M D := do
  let a ← x
  let b ← y
  let t ← cmpop op a b
  if t = true then do
    let c ← z
    let u ← cmpop op' b c
    pure (.bool u)
  else pure (.bool false)
def cmp3 (x y z v : M D) (op op' op2 : CmpOp) : M D := do
  let a ← x
  let b ← y
  let t ← cmpop op a b
  if t = true then do
    let c ← z
    let u ← cmpop op' b c
    if u = true then do
      let d ← v
      let r ← cmpop op2 c d
      pure (.bool r)
    else pure (.bool false)
  else pure (.bool false)
def gname (G : Gs) (Γ : Cxt) (x : Str) : Bool := okName x && kindG Γ.sc x && G.bare x
/-- the items of range(..) inside of list(..), tuple(..) -/
def rngArg (f : Str) : List Expr → Option (List Expr)
  | [.Call (.Name r _) [a] [] _] => if r = ("range" : Str) ∧ (f = ("list" : Str) ∨ f = ("tuple" : Str)) ∧ notStar a = true then some [a] else none
  | [.Call (.Name r _) [a, b] [] _] => if r = ("range" : Str) ∧ (f = ("list" : Str) ∨ f = ("tuple" : Str)) ∧ notStar a = true ∧ notStar b = true then some [a, b] else none
  | _ => none
/-- what a for or a comprehension walks -/
def rangeD (lo : Int) (n : Nat) : List D := (List.range n).map fun i => .int (lo + (i : Nat))
def enumD : Int → List D → List D
  | _, [] => []
  | k, d :: ds => .tuple [.int k, d] :: enumD (k + 1) ds
def zipD : List D → List D → List D
  | x :: xs, y :: ys => .tuple [x, y] :: zipD xs ys
  | _, _ => []
def in62 (i : Int) : Bool := decide (-(2 ^ 62) ≤ i) && decide (i < 2 ^ 62)
def iterC (f : Str) (xs : List D) : M (List D) :=
  if f = ("range" : Str) then match xs with
    | [.int n] => if in62 n = true then pure (rangeD 0 n.toNat) else fail
    | [.int a, .int b] => if in62 a = true ∧ in62 b = true then pure (rangeD a (b - a).toNat) else fail
    | _ => fail
  else if f = ("enumerate" : Str) then match xs with
    | [x] => match itemsOf x with
      | some ds => pure (enumD 0 ds)
      | none => fail
    | [x, .int k] => match itemsOf x with
      | some ds => if in62 k = true then pure (enumD k ds) else fail
      | none => fail
    | _ => fail
  else if f = ("zip" : Str) then match xs with
    | [.list ds, .list es] => pure (zipD ds es)
    | [.tuple ds, .tuple es] => pure (zipD ds es)
    | _ => fail
  else fail
def isTup : Expr → Bool
  | .Tuple _ _ _ => true
  | _ => false
def iterOk (g : Str) (args : List Expr) (tg : Expr) : Bool := noStars args &&
  ((decide (g = ("range" : Str)) && (args.length == 1 || args.length == 2)) ||
   (isTup tg && ((decide (g = ("enumerate" : Str)) && (args.length == 1 || args.length == 2)) || (decide (g = ("zip" : Str)) && args.length == 2))))
def dataI (m : M D) : M (List D) := do
  let d ← m
  match itemsOf d with
  | some ds => pure ds
  | none => fail
def iterE (G : Gs) (Γ : Cxt) (f : Expr → M D) (tg : Expr) : Expr → M (List D)
  | .Call (.Name g p) args [] pos =>
    if gname G Γ g = true ∧ iterOk g args tg = true then do
      let xs ← evs f args
      iterC g xs
    else dataI (f (.Call (.Name g p) args [] pos))
  | .Set _ _ _ => fail
  | e => dataI (f e)
/-- a target: names, tuples of names -/
def setN (Γ : Cxt) (σ : St) (x : Str) (d : D) (own : Bool) : Option St :=
  if okName x = true ∧ (Γ.st.names.lookup x = some .local ∨ Γ.st.names.lookup x = some .cell) then match Γ.N.idxOf? x with
    | some i => some (σ.set i (some (d, own)))
    | none => none
  else none
def bindNs (Γ : Cxt) : St → List Expr → List D → Option St
  | σ, [], [] => some σ
  | σ, .Name x _ :: es, d :: ds => (setN Γ σ x d false).bind fun σ' => bindNs Γ σ' es ds
  | _, _, _ => none
def bindT0 (Γ : Cxt) (σ : St) (tg : Expr) (d : D) : Option St := match tg with
  | .Name x _ => setN Γ σ x d false
  | .Tuple es _ _ => match itemsOf d with
    | some ds => bindNs Γ σ es ds
    | none => none
  | _ => none
def setI (Γ : Cxt) (x : Str) : Option Nat := if okName x = true ∧ (Γ.st.names.lookup x = some .local ∨ Γ.st.names.lookup x = some .cell) then Γ.N.idxOf? x else none
inductive Tg where
  | one (i : Nat) | many (is : List Nat)
def idxs (Γ : Cxt) : List Expr → Option (List Nat)
  | [] => some []
  | .Name x _ :: es => match setI Γ x, idxs Γ es with
    | some i, some is => some (i :: is)
    | _, _ => none
  | _ => none
def tgIdx (Γ : Cxt) : Expr → Option Tg
  | .Name x _ => (setI Γ x).map .one
  | .Tuple es _ _ => (idxs Γ es).map .many
  | _ => none
def setAll : St → List Nat → List D → Option St
  | σ, [], [] => some σ
  | σ, i :: is, d :: ds => setAll (σ.set i (some (d, false))) is ds
  | _, _, _ => none
def bindG (t : Tg) (σ : St) (d : D) : Option St := match t with
  | .one i => some (σ.set i (some (d, false)))
  | .many is => match itemsOf d with
    | some ds => setAll σ is ds
    | none => none
def bindT (Γ : Cxt) (σ : St) (tg : Expr) (d : D) : Option St := match tgIdx Γ tg with
  | some t => bindG t σ d
  | none => none
def lift {α : Type} : Option α → M α
  | some a => pure a
  | none => fail
def tgNames : Expr → List Str
  | .Name x _ => [x]
  | .Tuple es _ _ => es.filterMap fun e => match e with
    | .Name x _ => some x
    | _ => none
  | _ => []
def ownOf (N : List Str) (tg : Expr) : List (Str × Nat) := (tgNames tg).filterMap fun x => (N.idxOf? x).map fun i => (x, i)
def wipe (σ : St) : List Nat → St
  | [] => σ
  | v :: vs => (wipe σ vs).set v none
def compL (bind : D → Option St) (f : St → M Bool) (g : St → M D) : List D → M (List D)
  | [] => pure []
  | d :: ds => do
    let σ' ← lift (bind d)
    let b ← f σ'
    if b = true then do
      let y ← g σ'
      let ys ← compL bind f g ds
      pure (y :: ys)
    else compL bind f g ds
/-- two walks, one in the other -/
def compL2 (bind : D → Option St) (f : St → M Bool) (it : St → M (List D)) (vs : List Nat) (bind2 : St → D → Option St) (f2 : St → M Bool) (g : St → M D) : List D → M (List D)
  | [] => pure []
  | d :: ds => do
    let σ' ← lift (bind d)
    let b ← f σ'
    if b = true then do
      let es ← it σ'
      let ys ← compL (fun e => bind2 (wipe σ' vs) e) f2 g es
      let zs ← compL2 bind f it vs bind2 f2 g ds
      pure (ys ++ zs)
    else compL2 bind f it vs bind2 f2 g ds
def own2 (N : List Str) (tg tg1 : Expr) : List (Str × Nat) := ownOf N tg ++ ownOf N tg1
def isSet : Expr → Bool
  | .Set _ _ _ => true
  | _ => false
def ifsE (f : Expr → M D) : List Expr → M Bool
  | [] => pure true
  | [c] => tst f c
  | _ => fail
/-- no exception leaves a comprehension -/
def quiet {α : Type} (m : M α) : M α := fun s => match m s with
  | .ok a s' => .ok a s'
  | _ => .fail

def compB (rec : St → Expr → M D) (Γ : Cxt) (σ : St) (tg : Expr) (ifs : List Expr) (elt : Expr) (items : List D) : M (List D) :=
  quiet (compL (fun d => bindT Γ σ tg d) (fun σ' => ifsE (rec σ') ifs) (fun σ' => rec σ' elt) items)
def compB2 (G : Gs) (rec : St → Expr → M D) (Γ : Cxt) (σ : St) (tg : Expr) (ifs : List Expr) (tg1 it1 : Expr) (ifs1 : List Expr) (elt : Expr) (items : List D) : M (List D) :=
  quiet (compL2 (fun d => bindT Γ σ tg d) (fun σ' => ifsE (rec σ') ifs) (fun σ' => iterE G Γ (rec σ') tg1 it1) ((ownOf Γ.N tg1).map (·.2)) (fun σ d => bindT Γ σ tg1 d) (fun σ' => ifsE (rec σ') ifs1) (fun σ' => rec σ' elt) items)
def callQ (G : Gs) (f : Str) (args : List Expr) (xs : List D) : M D := match args with
  | [] => quiet (G.call f xs)
  | _ :: _ => G.call f xs
/-- isinstance: with a type, with two types -/
def isiE (G : Gs) (Γ : Cxt) (f : Expr → M D) : List Expr → M D
  | [a, .Name t _] => if gname G Γ t = true ∧ notStar a = true ∧ (isiT t).isSome = true then do
      let x ← f a
      match isi x t with
      | some b => pure (.bool b)
      | none => fail
    else fail
  | [a, .Tuple [.Name t _, .Name t2 _] _ _] => if (gname G Γ t = true ∧ gname G Γ t2 = true) ∧ notStar a = true ∧ (isiT t).isSome = true ∧ (isiT t2).isSome = true then do
      let x ← f a
      match isi x t, isi x t2 with
      | some b, some c => pure (.bool (b || c))
      | _, _ => fail
    else fail
  | _ => fail
/-- list(range(..)), tuple(range(..)) -/
def rngE (G : Gs) (Γ : Cxt) (f : Expr → M D) (h : Str) (rs : List Expr) : M D :=
  if gname G Γ "range" = true then do
    let xs ← evs f rs
    let ds ← iterC "range" xs
    if ds.length ≤ sline then pure (if h = ("list" : Str) then .list ds else .tuple ds) else fail
  else fail
def evF (G : Gs) (rec : Cxt → St → Expr → M D) (Γ : Cxt) (σ : St) : Expr → M D
  | .Constant (.int i) _ _ => pure (.int i)
  | .Constant (.bool b) _ _ => pure (.bool b)
  | .Constant .none _ _ => pure .none
  | .Constant (.str x) _ _ => pure (.str x)
  | .Name x _ => loadE G Γ σ false x
  | .BinOp a op b _ => do let x ← evP G Γ σ (rec Γ σ) a; let y ← evP G Γ σ (rec Γ σ) b; binop op x y
  | .UnaryOp .USub a _ => do let x ← rec Γ σ a; let i ← asInt x; pure (.int (-i))
  | .UnaryOp .Not a _ => do let b ← tst (rec Γ σ) a; pure (.bool (!b))
  | .BoolOp .And es _ => andL (rec Γ σ) es
  | .BoolOp .Or es _ => orL (rec Γ σ) es
  | .Compare a [op] [b] _ => if behindInMarks op b = false then cmp1 (evP G Γ σ (rec Γ σ) a) (evP G Γ σ (rec Γ σ) b) op else fail
  | .Compare a [op, op'] [b, c] _ => if lastMarks [op, op'] [b, c] = false then cmp2 (evP G Γ σ (rec Γ σ) a) (evP G Γ σ (rec Γ σ) b) (evP G Γ σ (rec Γ σ) c) op op' else fail
  | .Compare a [op, op', op2] [b, c, d] _ => if lastMarks [op, op', op2] [b, c, d] = false then cmp3 (evP G Γ σ (rec Γ σ) a) (evP G Γ σ (rec Γ σ) b) (evP G Γ σ (rec Γ σ) c) (evP G Γ σ (rec Γ σ) d) op op' op2 else fail
  | .IfExp c a b _ => do let t ← tst (rec Γ σ) c; if t = true then rec Γ σ a else rec Γ σ b
  | .Tuple es _ _ => do let ds ← evs (rec Γ σ) es; if ds.length ≤ sline then pure (.tuple ds) else fail
  | .List es _ => do let ds ← evs (rec Γ σ) es; if ds.length ≤ sline then pure (.list ds) else fail
  | .Dict ks vs _ => if ks.length ≤ 15 ∧ ks.all (·.isSome) = true ∧ ks.length = vs.length then do
      let ps ← evPairs (rec Γ σ) ks vs
      if dOk ps = true ∧ (ps.map fun p => keyD p.1).Nodup then pure (.dict ps) else fail
    else fail
  | .Subscript a (.Slice lo hi none _) _ => do
    let x ← evP G Γ σ (rec Γ σ) a
    let l ← evO (evP G Γ σ (rec Γ σ)) lo
    let h ← evO (evP G Γ σ (rec Γ σ)) hi
    getS x l h
  | .Subscript a (.Slice none none (some st) _) _ => if isM1 st = true then do
      let x ← evP G Γ σ (rec Γ σ) a
      revD x
    else fail
  | .Subscript a i _ => do
    let x ← evP G Γ σ (rec Γ σ) a
    let k ← evP G Γ σ (rec Γ σ) i
    getD' x k
  | .ListComp elt [⟨tg, it, ifs, 0⟩] sc _ =>
    if L2.blkC Γ.N Γ.sc sc (ownOf Γ.N tg) = true then do
      let items ← iterE G Γ (evP G Γ σ (rec Γ σ)) tg it
      let ys ← compB (rec ⟨Γ.N, L2.relS sc Γ.sc, sc⟩) ⟨Γ.N, L2.relS sc Γ.sc, sc⟩ (wipe σ ((ownOf Γ.N tg).map (·.2))) tg ifs elt items
      if ys.length ≤ sline then pure (.list ys) else fail
    else fail
  | .ListComp elt [⟨tg, it, ifs, 0⟩, ⟨tg1, it1, ifs1, 0⟩] sc _ =>
    if L2.blkC Γ.N Γ.sc sc (own2 Γ.N tg tg1) = true ∧ isSet it1 = false then do
      let items ← iterE G Γ (evP G Γ σ (rec Γ σ)) tg it
      let ys ← compB2 G (rec ⟨Γ.N, L2.relS sc Γ.sc, sc⟩) ⟨Γ.N, L2.relS sc Γ.sc, sc⟩ (wipe σ ((own2 Γ.N tg tg1).map (·.2))) tg ifs tg1 it1 ifs1 elt items
      if ys.length ≤ sline then pure (.list ys) else fail
    else fail
  | .Call (.Name f _) args [] _ =>
    if okName f = true ∧ kindG Γ.sc f = true then
      if G.bare f = true then
        if f = ("isinstance" : Str) then isiE G Γ (evP G Γ σ (rec Γ σ)) args
        else match rngArg f args with
        | some rs => rngE G Γ (evP G Γ σ (rec Γ σ)) f rs
        | none => if biN f = true ∧ noStars args = true then do
          let xs ← evs (evP G Γ σ (rec Γ σ)) args
          bi f xs
        else fail
      else match G.fns f with
        | some fg => if noStars args = true then (if fg.fl = true then do
            let xs ← evs (evP G Γ σ (rec Γ σ)) args
            let d ← callQ G f args xs
            if flat d = true then pure d else fail
          else do
            let xs ← evs (rec Γ σ) args
            callQ G f args xs) else fail
        | none => fail
    else fail
  | .Call (.Attribute o m q) [e] [] r => if (q.endLine == r.line) = true ∧ notStar e = true ∧ plainO o = true ∧ methN m = true then do
      let x ← evP G Γ σ (rec Γ σ) o
      methD x m (evP G Γ σ (rec Γ σ) e)
    else fail
  | _ => fail
def evE (G : Gs) : Nat → Cxt → St → Expr → M D
  | 0 => fun _ _ _ => fail
  | n + 1 => evF G (evE G n)

/-! ### statements -/
inductive Flow where
  | nx (σ : St) | ret (d : D) (own : Bool) | brk (σ : St) | ct (σ : St) | rz (x : Exc) (σ : St)
def stE {α : Type} (m : M α) (σ : St) (k : α → M Flow) : M Flow := fun s => match m s with
  | .ok a s' => k a s'
  | .exc x s' => .ok (.rz x σ) s'
  | .fail => .fail
/-- the names whose lists an expression may keep -/
def escP (f : Expr → List Str) : Expr → List Str
  | .Name _ _ => []
  | e => f e
def esc (G : Gs) (sc : Scope) : Nat → Expr → List Str
  | 0, _ => []
  | n + 1, e =>
    let f := esc G sc n
    let p := escP f
    match e with
    | .Name x _ => [x]
    | .BinOp a _ b _ => p a ++ p b
    | .UnaryOp _ a _ => f a
    | .BoolOp _ es _ => es.flatMap f
    | .Compare a _ bs _ => p a ++ bs.flatMap p
    | .IfExp c a b _ => f c ++ f a ++ f b
    | .Tuple es _ _ => es.flatMap f
    | .List es _ => es.flatMap f
    | .Dict ks vs _ => (ks.filterMap id).flatMap f ++ vs.flatMap f
    | .Subscript a (.Slice lo hi _ _) _ => p a ++ (lo.map p).getD [] ++ (hi.map p).getD []
    | .Subscript a i _ => p a ++ p i
    | .ListComp elt [⟨_, it, ifs, _⟩] _ _ => p it ++ f elt ++ ifs.flatMap f
    | .ListComp elt [⟨_, it, ifs, _⟩, ⟨_, it1, ifs1, _⟩] _ _ => p it ++ f elt ++ ifs.flatMap f ++ f it1 ++ ifs1.flatMap f
    | .Call (.Name g _) args _ _ => if G.bare g = true then args.flatMap p else match G.fns g with
      | some fg => if fg.fl = true then args.flatMap p else args.flatMap f
      | none => args.flatMap f
    | .Call (.Attribute o _ _) args _ _ => p o ++ args.flatMap p
    | _ => []
/-- is it a list made anew -/
def isL : D → Bool
  | .list _ => true
  | .dict kvs => dOk kvs
  | _ => false
def frF (G : Gs) : Nat → Expr → Bool
  | 0, _ => false
  | n + 1, e => match e with
      | .List _ _ => true
      | .Dict _ _ _ => true
      | .ListComp _ _ _ _ => true
      | .BinOp _ _ _ _ => true
      | .Subscript _ (.Slice _ _ none _) _ => true
      | .Subscript _ (.Slice none none (some _) _) _ => true
      | .IfExp _ a b _ => frF G n a && frF G n b
      | .Call (.Name f _) _ _ _ => if G.bare f = true then frB f else match G.fns f with
        | some fg => fg.fr && !fg.fl
        | none => false
      | _ => false
def freshE (G : Gs) (n : Nat) (e : Expr) (d : D) : Bool := frF G n e && isL d
def frz : St → List Nat → St
  | σ, [] => σ
  | σ, i :: is => match σ[i]? with
    | some (some (d, _)) => frz (σ.set i (some (d, false))) is
    | _ => frz σ is
def freeze (Γ : Cxt) (σ : St) (xs : List Str) : St := frz σ (xs.filterMap (slot Γ))
def fz (G : Gs) (Γ : Cxt) (σ : St) (e : Expr) : St := freeze Γ σ (esc G Γ.sc 40 e)
/-- a list that a name owns -/
def ownL (Γ : Cxt) (σ : St) (x : Str) : Option (Nat × List D) :=
  if okName x = true ∧ kindL Γ.sc x = true then match slot Γ x with
    | some i => match σ[i]? with
      | some (some (.list ds, true)) => some (i, ds)
      | _ => none
    | none => none
  else none
/-- a dict that a name owns -/
def ownD (Γ : Cxt) (σ : St) (x : Str) : Option (Nat × List (D × D)) :=
  if okName x = true ∧ kindL Γ.sc x = true then match slot Γ x with
    | some i => match σ[i]? with
      | some (some (.dict kvs, true)) => some (i, kvs)
      | _ => none
    | none => none
  else none
def isName : Expr → Option Str
  | .Name x _ => some x
  | _ => none
def whileL (t : St → M Bool) (body : St → M Flow) : Nat → St → M Flow
  | 0, _ => fail
  | w + 1, σ => stE (t σ) σ fun b => if b = true then do
      let fl ← body σ
      match fl with
      | .nx σ' => whileL t body w σ'
      | .ct σ' => whileL t body w σ'
      | .brk σ' => pure (.nx σ')
      | .ret d o => pure (.ret d o)
      | .rz x σ' => pure (.rz x σ')
    else pure (.nx σ)
def forL (bind : St → D → Option St) (body : St → M Flow) : List D → St → M Flow
  | [], σ => pure (.nx σ)
  | d :: ds, σ => match bind σ d with
    | none => fail
    | some σ1 => do
      let fl ← body σ1
      match fl with
      | .nx σ' => forL bind body ds σ'
      | .ct σ' => forL bind body ds σ'
      | .brk σ' => pure (.nx σ')
      | .ret d o => pure (.ret d o)
      | .rz x σ' => pure (.rz x σ')
def thenF (m : M Flow) (k : St → M Flow) : M Flow := do
  let fl ← m
  match fl with
  | .nx σ => k σ
  | fl => pure fl
def oneLine : List Expr → Bool
  | .Name _ p :: es => es.all fun e => match e with
    | .Name _ q => q.line == p.line
    | _ => false
  | _ => false
def namesOf : List Expr → Option (List Str)
  | [] => some []
  | .Name x _ :: es => (namesOf es).map (x :: ·)
  | _ => none
def setNs (Γ : Cxt) : St → List (Str × D × Bool) → Option St
  | σ, [] => some σ
  | σ, (x, d, o) :: r => (setN Γ σ x d o).bind fun σ' => setNs Γ σ' r
def isLocal (sc : Scope) (x : Str) : Bool := match sc.names.lookup x with
  | some .local => true | _ => false
/-- the stores of a pair or a triple made in the head -/
def parOk (Γ : Cxt) (ts vs : List Expr) (xs : List Str) : Bool :=
  (ts.length == 2 || ts.length == 3) && vs.length == ts.length && oneLine ts && xs.all (isLocal Γ.sc) && xs.eraseDups.length == xs.length && vs.all notStar && !(vs.all (foldedForSure 8)) && !(vs.all (constantsAlone 8))
def listComp : Expr → Bool
  | .ListComp _ _ _ _ => true | .SetComp _ _ _ _ => true | .DictComp _ _ _ _ _ => true
  | _ => false
def setOk (Γ : Cxt) (x : Str) : Bool := okName x && (match Γ.st.names.lookup x with
  | some .local => true | some .cell => true | _ => false) && (Γ.N.idxOf? x).isSome
def nx1 (o : Option St) : M Flow := lift (o.map .nx)
/-- return e -/
def stRet (G : Gs) (ev : Cxt → St → Expr → M D) (Γ : Cxt) (σ : St) (e : Expr) : M Flow :=
  stE (ev Γ (freeze Γ σ Γ.N) e) (freeze Γ σ Γ.N) fun d => pure (.ret d (freshE G 40 e d))
def stRetN (ev : Cxt → St → Expr → M D) (Γ : Cxt) (σ : St) (x : Str) (p : Pos) : M Flow := match ownL Γ σ x with
  | some (_, ds) => pure (.ret (.list ds) true)
  | none => match ownD Γ σ x with
    | some (_, kvs) => if dOk kvs = true then pure (.ret (.dict kvs) true) else fail
    | none => stE (ev Γ σ (.Name x p)) σ fun d => pure (.ret d false)
def iterNames : Expr → List Str
  | .Name x _ => [x]
  | .Call _ args _ _ => args.filterMap isName
  | _ => []
def stFor (G : Gs) (ev : Cxt → St → Expr → M D) (ex : St → List Stmt → M Flow) (Γ : Cxt) (σ : St) (tg it : Expr) (body : List Stmt) : M Flow :=
  let σ0 := freeze Γ (fz G Γ σ it) (iterNames it)
  stE (iterE G Γ (ev Γ σ0) tg it) σ0 fun items => forL (fun σ d => bindT Γ σ tg d) (fun σ => ex σ body) items σ0
/-- x = e -/
def stAsg (G : Gs) (ev : Cxt → St → Expr → M D) (Γ : Cxt) (σ : St) (x : Str) (e : Expr) : M Flow :=
  if setOk Γ x = true then stE (ev Γ (fz G Γ σ e) e) (fz G Γ σ e) fun d => nx1 (setN Γ (fz G Γ σ e) x d (freshE G 40 e d)) else fail
/-- x = l.pop(..) -/
def stPop (ev : Cxt → St → Expr → M D) (Γ : Cxt) (σ : St) (x l : Str) (q r : Pos) (args : List Expr) : M Flow :=
  if setOk Γ x = true ∧ (q.endLine == r.line) = true ∧ noStars args = true then match ownL Γ σ l with
    | some (i, ds) => match args with
      | [] => match ds.getLast? with
        | some d => nx1 (setN Γ (σ.set i (some (.list ds.dropLast, true))) x d false)
        | none => fail
      | [e] => stE (ev Γ σ e) σ fun j => match j with
        | .int j => match L2.ixN ds.length j with
          | some k => match ds[k]? with
            | some d => if in62 j = true then nx1 (setN Γ (σ.set i (some (.list (ds.eraseIdx k), true))) x d false) else fail
            | none => fail
          | none => fail
        | _ => fail
      | _ => fail
    | none => fail
  else fail
def idxL (Γ : Cxt) (xs : List Str) : List Nat := xs.filterMap fun x => Γ.N.idxOf? x
def isNil : Expr → Bool
  | .List [] _ => true
  | .Dict [] [] _ => true
  | _ => false
def scal : D → Bool
  | .int _ => true
  | .bool _ => true
  | .none => true
  | .str _ => true
  | _ => false
/-- the stores of a pair: a list written [] is the name's own -/
def setPar (ns : List Bool) (σ : St) (is : List Nat) (ds : List D) : Option St := match ns, is, ds with
  | [true, false], [i, j], [d, e] => if scal e = true then some ((σ.set i (some (d, true))).set j (some (e, false))) else setAll σ is ds
  | [false, true], [i, j], [d, e] => if scal d = true then some ((σ.set i (some (d, false))).set j (some (e, true))) else setAll σ is ds
  | _, _, _ => setAll σ is ds
/-- a, b = e, f -/
def stPar (G : Gs) (ev : Cxt → St → Expr → M D) (Γ : Cxt) (σ : St) (ts vs : List Expr) : M Flow := match namesOf ts with
  | some xs => if parOk Γ ts vs xs = true ∧ xs.all (setOk Γ) = true then
      let σ0 := freeze Γ σ (vs.flatMap (esc G Γ.sc 40))
      stE (evs (ev Γ σ0) vs) σ0 fun ds => nx1 (setPar (vs.map isNil) σ0 (idxL Γ xs) ds)
    else fail
  | none => fail
def stTup (G : Gs) (ev : Cxt → St → Expr → M D) (Γ : Cxt) (σ : St) (tg e : Expr) : M Flow :=
  stE (ev Γ (fz G Γ σ e) e) (fz G Γ σ e) fun d => nx1 (bindT Γ (fz G Γ σ e) tg d)
/-- a pair whose stores wait for the tuple -/
def offPar (Γ : Cxt) (ts vs : List Expr) : Bool := (ts.length == 2 || ts.length == 3) && vs.length == ts.length && vs.all notStar && !(ts.all fun e => match e with
  | .Name x p => isLocal Γ.sc x && p.line == (ts.head?.map (·.pos.line)).getD 0
  | _ => false)
def noSlice : Expr → Bool
  | .Slice _ _ _ _ => false
  | _ => true
/-- l[i] = e -/
def stSub (G : Gs) (ev : Cxt → St → Expr → M D) (Γ : Cxt) (σ : St) (l : Str) (i e : Expr) : M Flow :=
  let σ0 := fz G Γ σ e
  if (okName l = true ∧ (slot Γ l).isSome = true) ∧ noSlice i = true then stE (ev Γ σ0 e) σ0 fun d => match ownL Γ σ0 l with
    | some (k, ds) => stE (ev Γ σ0 i) σ0 fun j => match j with
      | .int j => match L2.ixN ds.length j with
        | some n => pure (.nx (σ0.set k (some (.list (ds.set n d), true))))
        | none => fail
      | _ => fail
    | none => match ownD Γ σ0 l with
      | some (k, kvs) => stE (ev Γ σ0 i) σ0 fun j => match keyD j with
        | some _ => if kvs.length < 1000 then pure (.nx (σ0.set k (some (.dict (dPut kvs j d), true)))) else fail
        | none => fail
      | none => fail
  else fail
def augI (op : Operator) (a b : Int) : Option Int := match op with
  | .Add => some (a + b)
  | .Sub => some (a - b)
  | .Mult => if a.natAbs.log2 + b.natAbs.log2 < 1000000 then some (a * b) else none
  | _ => none
/-- x op= e -/
def stAug (ev : Cxt → St → Expr → M D) (Γ : Cxt) (σ : St) (x : Str) (op : Operator) (e : Expr) : M Flow :=
  if setOk Γ x = true then match Γ.N.idxOf? x with
    | some i => match σ[i]? with
      | some (some (.int a, _)) => stE (ev Γ σ e) σ fun d => match d with
        | .int b => match augI op a b with
          | some c => nx1 (setN Γ σ x (.int c) false)
          | none => fail
        | _ => fail
      | _ => fail
    | none => fail
  else fail
/-- l[i] op= e -/
def stAugS (ev : Cxt → St → Expr → M D) (Γ : Cxt) (σ : St) (l : Str) (i : Expr) (op : Operator) (e : Expr) : M Flow :=
  if (okName l = true ∧ (slot Γ l).isSome = true) ∧ noSlice i = true then match ownL Γ σ l with
    | some (k, ds) => stE (ev Γ σ i) σ fun j => match j with
      | .int j => match L2.ixN ds.length j with
        | some n => match ds[n]? with
          | some (.int a) => stE (ev Γ σ e) σ fun d => match d with
            | .int b => match augI op a b with
              | some c => pure (.nx (σ.set k (some (.list (ds.set n (.int c)), true))))
              | none => fail
            | _ => fail
          | _ => fail
        | none => fail
      | _ => fail
    | none => fail
  else fail
/-- l.append(e) -/
def stApp (G : Gs) (ev : Cxt → St → Expr → M D) (Γ : Cxt) (σ : St) (l : Str) (q r : Pos) (e : Expr) : M Flow :=
  let σ0 := fz G Γ σ e
  if (q.endLine == r.line) = true ∧ notStar e = true then match ownL Γ σ0 l with
    | some (k, ds) => stE (ev Γ σ0 e) σ0 fun d => if ds.length < sline then pure (.nx (σ0.set k (some (.list (ds ++ [d]), true)))) else fail
    | none => fail
  else fail
/-- l.extend(e) -/
def stExt (G : Gs) (ev : Cxt → St → Expr → M D) (Γ : Cxt) (σ : St) (l : Str) (q r : Pos) (e : Expr) : M Flow :=
  let σ0 := fz G Γ σ e
  if (q.endLine == r.line) = true ∧ notStar e = true then match ownL Γ σ0 l with
    | some (k, ds) => stE (ev Γ σ0 e) σ0 fun d => match d with
      | .list es => if ds.length + es.length ≤ sline then pure (.nx (σ0.set k (some (.list (ds ++ es), true)))) else fail
      | _ => fail
    | none => fail
  else fail
/-- l.pop() -/
def stPop0 (Γ : Cxt) (σ : St) (l : Str) (q r : Pos) : M Flow :=
  if (q.endLine == r.line) = true then match ownL Γ σ l with
    | some (i, ds) => if ds.length = 0 then fail else pure (.nx (σ.set i (some (.list ds.dropLast, true))))
    | none => fail
  else fail
def stExp (G : Gs) (ev : Cxt → St → Expr → M D) (Γ : Cxt) (σ : St) (e : Expr) : M Flow :=
  if listComp e = true then fail else stE (ev Γ (fz G Γ σ e) e) (fz G Γ σ e) fun _ => pure (.nx (fz G Γ σ e))
def stMet (G : Gs) (ev : Cxt → St → Expr → M D) (Γ : Cxt) (σ : St) (l m : Str) (q r : Pos) (args : List Expr) : M Flow :=
  if m = ("append" : Str) then match args with
    | [e] => stApp G ev Γ σ l q r e
    | _ => fail
  else if m = ("pop" : Str) then match args with
    | [] => stPop0 Γ σ l q r
    | _ => fail
  else if m = ("extend" : Str) then match args with
    | [e] => stExt G ev Γ σ l q r e
    | _ => fail
  else fail
def stRaise (G : Gs) (Γ : Cxt) (σ : St) (c m : Str) : M Flow :=
  if okName c = true ∧ kindG Γ.sc c = true ∧ G.exc c = true then (if G.ini c = true then pure (.rz ⟨c, [("reason", .str m)]⟩ σ) else pure (.rz ⟨c, []⟩ σ)) else fail
/-- what a clause hands back: x the error, on the error's name -/
def hexp (G : Gs) (Γ : Cxt) (on : Option Str) (x : Exc) : Nat → Expr → Option D
  | 0, _ => none
  | _ + 1, .Constant (.int i) _ _ => some (.int i)
  | _ + 1, .Constant (.str i) _ _ => some (.str i)
  | _ + 1, .Constant (.bool i) _ _ => some (.bool i)
  | _ + 1, .Constant .none _ _ => some .none
  | _ + 1, .Call (.Name f _) [.Name n _, .Name F _] [] _ =>
    if f = ("isinstance" : Str) ∧ gname G Γ f = true ∧ on = some n ∧ (okName n = true ∧ okName F = true) ∧ kindG Γ.sc F = true then (G.sub x.cls F).map .bool else none
  | _ + 1, .Attribute (.Name n _) f _ => if f = ("reason" : Str) ∧ on = some n ∧ okName n = true then (if G.ini x.cls = true then (match x.flds with
    | [(_, .str m)] => some (.str m)
    | _ => none) else none) else none
  | k + 1, .BoolOp .And [a, b] _ => match hexp G Γ on x k a, hexp G Γ on x k b with
    | some (.bool p), some (.bool q) => some (.bool (p && q))
    | _, _ => none
  | k + 1, .BinOp a .Add b _ => match hexp G Γ on x k a, hexp G Γ on x k b with
    | some (.str p), some (.str q) => if p.length + q.length ≤ sline then some (.str (p ++ q)) else none
    | _, _ => none
  | k + 1, .IfExp (.Call f as ks p) a b _ => match hexp G Γ on x k (.Call f as ks p) with
    | some (.bool t) => if t = true then hexp G Γ on x k a else hexp G Γ on x k b
    | _ => none
  | _, _ => none
def hexpL (G : Gs) (Γ : Cxt) (on : Option Str) (x : Exc) : List Expr → Option (List D)
  | [] => some []
  | e :: es => if notStar e = true then (match hexp G Γ on x 5 e, hexpL G Γ on x es with
    | some d, some ds => some (d :: ds)
    | _, _ => none) else none
def hret (G : Gs) (Γ : Cxt) (on : Option Str) (x : Exc) : Expr → Option D
  | .List es _ => if es.length ≤ 5 then (hexpL G Γ on x es).map .list else none
  | e => hexp G Γ on x 5 e
def onIn (Γ : Cxt) (on : Option Str) (n : Nat) : Bool := match on with
  | none => true
  | some x => match Γ.N.idxOf? x with
    | some i => decide (i < n)
    | none => false
abbrev Clause := Str × Option Str × Expr
def clauses (G : Gs) (Γ : Cxt) (x : Exc) (σ' : St) : List Clause → M Flow
  | [] => pure (.rz x σ')
  | (c, on, e) :: r => if x.cls = c then (match hret G Γ on x e with
      | some d => pure (.ret d false)
      | none => fail) else clauses G Γ x σ' r
def catchF (G : Gs) (Γ : Cxt) (l : List Clause) (fl : Flow) : M Flow := match fl with
  | .rz x σ' => if G.exc x.cls = true ∧ (l.all fun p => onIn Γ p.2.1 σ'.length) = true then clauses G Γ x σ' l else fail
  | .nx σ' => pure (.nx σ')
  | .ret d o => pure (.ret d o)
  | .brk σ' => pure (.brk σ')
  | .ct σ' => pure (.ct σ')
def onOk (Γ : Cxt) : Option Str → Bool
  | none => true
  | some n => isLocal Γ.sc n && (Γ.N.idxOf? n).isSome
def clOk (G : Gs) (Γ : Cxt) (p : Clause) : Bool := okName p.1 && kindG Γ.sc p.1 && G.exc p.1 && onOk Γ p.2.1
def stTry (G : Gs) (ex : St → List Stmt → M Flow) (Γ : Cxt) (σ : St) (body : List Stmt) (l : List Clause) : M Flow :=
  if l.all (clOk G Γ) = true ∧ l ≠ [] then M.bind (ex σ body) (catchF G Γ l) else fail
/-- turns that a while may take -/
def msr (σ : St) : Nat := (σ.map fun s => match s with
  | some (.int i, _) => i.natAbs
  | some (.list ds, _) => ds.length
  | some (.tuple ds, _) => ds.length
  | _ => 0).sum
def raiseOf : Expr → Option (Str × Str)
  | .Call (.Name c _) [.Constant (.str m) _ _] [] _ => some (c, m)
  | _ => none
def tryOf : List ExceptHandler → Option (List Clause)
  | [] => some []
  | .ExceptHandler (some (.Name c _)) on [.Return (some e) _] _ :: r => match tryOf r with
    | some l => some ((c, on, e) :: l)
    | none => none
  | _ => none
def exec1 (G : Gs) (ev : Cxt → St → Expr → M D) (w : Nat) (ex : St → List Stmt → M Flow) (Γ : Cxt) (σ : St) : Stmt → M Flow
  | .Pass _ => pure (.nx σ)
  | .Break _ => pure (.brk σ)
  | .Continue _ => pure (.ct σ)
  | .Return none _ => pure (.ret .none false)
  | .Return (some (.Name x p)) _ => stRetN ev Γ σ x p
  | .Return (some e) _ => stRet G ev Γ σ e
  | .If c a b _ => stE (tst (ev Γ σ) c) σ fun t => if t = true then ex σ a else ex σ b
  | .While c body [] _ => whileL (fun σ => tst (ev Γ σ) c) (fun σ => ex σ body) (w + msr σ) σ
  | .For tg it body [] _ => stFor G ev ex Γ σ tg it body
  | .Assign [.Name x _] (.Call (.Attribute (.Name l p) m q) args [] r) pos => if m = ("pop" : Str) then stPop ev Γ σ x l q r args else stAsg G ev Γ σ x (.Call (.Attribute (.Name l p) m q) args [] r)
  | .Assign [.Name x _] e _ => stAsg G ev Γ σ x e
  | .Assign [.Tuple ts k p] (.Tuple vs k2 p2) _ => if offPar Γ ts vs = true then stTup G ev Γ σ (.Tuple ts k p) (.Tuple vs k2 p2) else stPar G ev Γ σ ts vs
  | .Assign [.Tuple ts k p] e _ => stTup G ev Γ σ (.Tuple ts k p) e
  | .Assign [.Subscript (.Name l _) i _] e _ => stSub G ev Γ σ l i e
  | .AugAssign (.Name x _) op e _ => stAug ev Γ σ x op e
  | .AugAssign (.Subscript (.Name l _) i _) op e _ => stAugS ev Γ σ l i op e
  | .Expr (.Call (.Attribute (.Name l _) m q) args [] r) _ => stMet G ev Γ σ l m q r args
  | .Expr e _ => stExp G ev Γ σ e
  | .Raise (some e) none _ => match raiseOf e with
    | some (c, m) => stRaise G Γ σ c m
    | none => fail
  | .Try body hs [] [] _ => match tryOf hs with
    | some l => stTry G ex Γ σ body l
    | none => fail
  | _ => fail
def exec (G : Gs) (ev : Cxt → St → Expr → M D) (w : Nat) (Γ : Cxt) : Nat → St → List Stmt → M Flow
  | 0, _, _ => fail
  | _ + 1, σ, [] => pure (.nx σ)
  | n + 1, σ, st :: rest => thenF (exec1 G ev w (exec G ev w Γ n) Γ σ st) fun σ' => exec G ev w Γ n σ' rest

/-! ### defs -/
structure Fd where
  ps : List Str
  N : List Str
  sc : Scope
  body : List Stmt
  flg : Flg
/-- the program: its defs by name; prim: what the drawing defs do -/
structure Pg where
  fd : Str → Option Fd
  prim : Str → Option (List D → M D)
  cst : Str → Option D
  bare : Str → Bool
  exc : Str → Bool
  ini : Str → Bool
  sub : Str → Str → Option Bool
def Pg.flg (P : Pg) (f : Str) : Option Flg := match P.prim f with
  | some _ => some ⟨false, true⟩
  | none => (P.fd f).map (·.flg)
def start (N : List Str) (ds : List D) : St := (ds.map fun d => some (d, false)) ++ List.replicate (N.length - ds.length) none
def endF (fg : Flg) : Flow → M D
  | .nx _ => if fg.fr = true then fail else pure .none
  | .ret d own => if (fg.fr = true ∧ own = false) ∨ (fg.fl = true ∧ flat d = false) then fail else pure d
  | .rz x _ => throwX x
  | _ => fail
def Pg.gl (P : Pg) (call : Str → List D → M D) : Gs := ⟨P.cst, P.flg, call, P.bare, P.exc, P.ini, P.sub⟩
def runFd (G : Gs) (w : Nat) (F : Fd) (ds : List D) : M D :=
  if ds.length = F.ps.length then do
    let fl ← quiet (exec G (evE G 40) w ⟨F.N, F.sc, F.sc⟩ 60 (start F.N ds) F.body)
    endF F.flg fl
  else fail
def Pg.call (P : Pg) (w : Nat) : Nat → Str → List D → M D
  | 0, _, _ => fail
  | k + 1, f, ds => match P.prim f with
    | some p => p ds
    | none => match P.fd f with
      | some F => runFd (P.gl (P.call w k)) w F ds
      | none => fail
end Py

set_option Elab.async false
set_option linter.all false
set_option maxRecDepth 100000
set_option maxHeartbeats 2000000
/-! An own exception over ValueError whose __init__ says super().__init__(x); self.f = x. -/
namespace PySem
namespace RefX
open PySem.W PySem.Calls PyProof.Rows PySem.HandSPX
def iA (p1 p2 : Pos) : Arguments := { posonlyargs := [], args := [{ arg := "self", annotation := none, pos := p1 }, { arg := "reason", annotation := none, pos := p2 }], vararg := none, kwonlyargs := [], kw_defaults := [], kwarg := none, defaults := [] }
def iB (a1 a2 a3 a4 a5 a6 q1 q2 q3 q4 : Pos) : List Stmt :=
  [.Expr (.Call (.Attribute (.Call (.Name "super" a1) [] [] a2) "__init__" a3) [.Name "reason" a4] [] a5) a6, .Assign [.Attribute (.Name "self" q1) "reason" q2] (.Name "reason" q3) q4]
def rS : Scope := { kind := .function, names := [(PySem.Str.ofString "self", .local), (PySem.Str.ofString "reason", .local), (PySem.Str.ofString "__class__", .free), (PySem.Str.ofString "super", .globalImplicit)], isGenerator := false, isCoroutine := false, more := [] }
/-- what the written part says of the class at C, of its __init__ at fI -/
structure RefTxt (prog : Program) (K : Frag) (C fI : Addr) : Prop where
  cls : ∃ nm q N bs bm sn sub ab col dd k0 k1 k2 k3 k5, K.lookup C = some (excClassObj nm q C N bs bm true sn sub ab col dd k0 k1 k2 k3 k5 "ValueError.__new__") ∧ refsVE bm = true
  sup : ks_superIn K C C "__init__" = some (some (.builtin "ValueError.__init__"))
  sa : findIn K (.ref C) "__setattr__" = some (some (.builtin "object.__setattr__"))
  ga : findIn K (.ref C) "__getattribute__" = some (some (.builtin "BaseException.__getattribute__"))
  gg : findIn K (.ref C) "__getattr__" = some none
  noN : findIn K (.ref C) "reason" = some none
  iC : findIn K (.ref C) "__init__" = some (some (.ref fI))
  tC : typeIn K (.ref fI) = some (.type "function")
  kC : keepIn K (.ref C) = true
  exC : subIn K (.ref C) (.type "BaseException") = some true
  veC : subIn K (.ref C) (.type "ValueError") = some true
  mC : mroIn K C (.ref C) = some true
  isC : (clsIn K C).isSome = true
  tyC : typeIn K (.ref C) = some (.type "type")
  hdC : hasDictIn K C = true
  any : nsIn K cStatics "thirdparty.any" = some none
  sg : nsIn K mainGlobals "super" = some none
  htop : (prog.main.scope.names.lookup ("super" : Str)).isSome = false
  fn : ∃ (oc : Value) (od : Option Addr) (doc pm : Value) (an : Option Addr) (cda cc : Addr) (ct : Value) (osl : Array (Option Value)) (p1 p2 a1 a2 a3 a4 a5 a6 q1 q2 q3 q4 : Pos) (ccl cl : Value) (cdd cld : Option Addr) (ccs csl : Array (Option Value)) (vs : Array Value) (file : Str) (tf : Tok),
    K.lookup fI = some ⟨oc, od, .func (ksFn "__init__" "Refused.__init__" (iA p1 p2) (iB a1 a2 a3 a4 a5 a6 q1 q2 q3 q4) rS .none .none doc pm an (.ref cda) ct cc), osl⟩ ∧ codeIn K (.ref cda) "Refused.__init__" = true ∧
      K.lookup cda = some ⟨ccl, cdd, .fields vs, ccs⟩ ∧ vs[2]? = some (.str file tf) ∧ ((prog.main.file : Str) == file) = true ∧ K.lookup cc = some ⟨cl, cld, .cell (some (.ref C)), csl⟩ ∧
      ∀ env : Env, ∃ pl, eval (.Call (.Attribute (.Call (.Name "super" a1) [] [] a2) "__init__" a3) [.Name "reason" a4] [] a5) env = (do
        let ov ← attributeBase (.Call (.Name "super" a1) [] [] a2) "__init__" env (eval (.Call (.Name "super" a1) [] [] a2) env)
        standAt a3.atName
        let (f, first) ← holding [ov] (getMethod ov "__init__" pl)
        callWith a5 f first (backTo a5 (starEach [.Name "reason" a4] env)) [])
section
variable {prog : Program} {w : World} {A : Around} {E : Value → Shared → Prop} {R : Result → Shared → Prop} {s : Shared} {K : Frag} {C fI : Addr} 
/-- what __init__ leaves of a fresh exception at x -/
structure InitEnd (h h' : Heap) (x C dx t1 : Addr) (v : Value) : Prop where
  keep : ∀ b o, b ≠ x → h.get? b = some o → h'.get? b = some o
  obj : h'.get? x = some { cls := .ref C, dict := some dx, data := .fields #[.ref t1, .none, .none, .none, .bool false, .none] }
  dbig : h.objs.size ≤ dx
  dne : dx ≠ x
  ns : h'.Ns1 dx (fun y => if y = "reason" then some v else none)
theorem call_mw {h : Heap} {g : Array GenState} {d : Drawn} {t : Nat} {os : OsState} {nm q : Str} {N : Addr} {bs bm bmB : List Value} {hdct : Bool} {sn : List Str} {sub : List Value} {ab : Bool} {col : Option Bool} {dd : Option Addr} {k0 k1 k2 k3 k5 : Option Value} {u e t0 : Addr} {rest : List Value} {Q : Value → Shared → Prop}
    (FB : ExcBaseFacts "ValueError" "ValueError.__new__" "ValueError.__init__" bmB) (hC : h.get? C = some (excClassObj nm q C N bs bm hdct sn sub ab col dd k0 k1 k2 k3 k5 "ValueError.__new__")) (he : h.get? e = some (excO C t0)) (hu : h.get? u = some (kxs_mw "ValueError.__init__" e)) (hz : rest.length ≤ sizeLine)
    (hq : ∀ h' t1, (∀ b o, b ≠ e → h.get? b = some o → h'.get? b = some o) → h'.get? e = some (excO C t1) → Q .none ⟨h', g, d, t, os⟩) :
    wpAny (model prog w) A (call (.ref u) rest) Q E ⟨h, g, d, t, os⟩ := by
  refine wpAny_call (codeAny_of_tree ?_)
  show wpAny _ A.in1 (callAny (.ref u) ⟨rest, []⟩) _ _ _
  simp only [callAny]
  refine wpAny_bind (wpAny_load hu ?_)
  simp only [kxs_mw, show (Value.type "method-wrapper" == Value.type "method" || Value.type "method-wrapper" == Value.type "builtin_function_or_method" || Value.type "method-wrapper" == Value.type "method-wrapper") = true by decide, if_true]
  refine KFB.if_so (by decide) ?_
  refine wpAny_bind (check_bound_init FB.toExcCallFacts hC he rfl ?_)
  refine wpAny_bind (wpAny_pure (wpAny_pure ?_))
  refine ⟨plainId_quiet FB.init.plain _, codeAny_builtin FB.initEntry ?_⟩
  exact exc_init_tree (cls := .ref C) (t0 := t0) (dv := none) (c2 := .none) (c3 := .none) (b4 := .bool false) he hz fun h' k e' _ => hq h' _ k e'
theorem ref_init (T : RefTxt prog K C fI) {mg mb : Str → Option Value} {x t0 : Addr} {v : Value} (X : K.In s.heap) (G : s.heap.Ns mainGlobals mg) (B : s.heap.Ns builtinsNs mb) (hb : ∀ x : Str, x ≠ "__name__" → mb x = bootBuiltins x)
    (hlim : s.heap.NoLimit) (hx : s.heap.get? x = some (excO C t0)) (hnx : K.lookup x = none) (hroom : A.depth < recursionLimit)
    (hq : ∀ h' tk dx t1, InitEnd s.heap h' x C dx t1 v → R (.ok (.ret .none)) { s with heap := h', toks := tk }) :
    codeAny (model prog w) A (.call (.ref fI) ⟨[.ref x, v], []⟩) R s := by
  obtain ⟨oc, od, doc, pm, an, cda, cc, ct, osl, p1, p2, a1, a2, a3, a4, a5, a6, q1, q2, q3, q4, ccl, cl, cdd, cld, ccs, csl, vs, file, tf, ho, hcd, hcda, hvs, hfile, hcell, hev⟩ := T.fn
  obtain ⟨nm, q, N, bs, bm, sn, sub, ab, col, dd, k0, k1, k2, k3, k5, hC, hbm⟩ := T.cls
  have hcl : clsIn K C = some { name := nm, bases := bs, mro := .ref C :: bm, ns := N, qualname := q, hasDict := true, slotNames := sn, subclasses := sub, abstract := ab, collection := col, hasDel := false } := by unfold clsIn; rw [hC] <;> rfl
  refine ks_codeAny_call_defAt (fd := ksFn "__init__" "Refused.__init__" (iA p1 p2) (iB a1 a2 a3 a4 a5 a6 q1 q2 q3 q4) rS .none .none doc pm an (.ref cda) ct cc) (body := iB a1 a2 a3 a4 a5 a6 q1 q2 q3 q4) (binds := [("self", .ref x), ("reason", v)]) hroom (X _ _ ho) rfl hlim (codeRec_of X hcd) rfl
    (BindsTo.of_eq (by first | rfl | with_unfolding_all rfl)) (show ∀ x ∈ rS.names, x.2 ≠ .cell by decide) (fun y hy => ?_) (fun h₁ hns k => ?_) rfl rfl rfl
  · rcases List.mem_cons.mp hy with rfl | hy
    · rfl
    rcases List.mem_cons.mp hy with rfl | hy
    · rfl
    · cases hy
  have X₁ : K.In h₁ := X.keeps k
  have hx₁ := k _ _ hx
  have G₁ := G.keeps k
  have B₁ := B.keeps k
  -- super().__init__(p)
  obtain ⟨pl, hpl⟩ := hev (callEnv (ksFn "__init__" "Refused.__init__" (iA p1 p2) (iB a1 a2 a3 a4 a5 a6 q1 q2 q3 q4) rS .none .none doc pm an (.ref cda) ct cc) s.heap.objs.size fI)
  refine ks_wpAt_execs_cons (ks_wpAt_Expr_any (ks_wpAt_MethodCall ?_ hpl) (by rfl) (by rfl))
  have hC₁ : h₁.get? C = _ := X₁ _ _ hC
  refine ks_wpAt_super_base (oc := ⟨ccl, cdd, .fields vs, ccs⟩) rfl rfl rfl rfl (X₁ _ _ ho) rfl rfl rfl (X₁ _ _ hcda) rfl hvs hfile T.htop ?_
  refine ks_loadName_global rfl rfl (loadGlobal_builtin G₁ (mg_none_of X G T.sg) B₁ ((hb _ (by decide +kernel)).trans (by kernel_rfl)) ⟨rfl, ?_⟩)
  refine wpAny_loadName_free rfl rfl rfl ⟨_, X₁ _ _ hcell, rfl⟩ ?_
  refine wpAny_loadName_local rfl rfl hns (v := .ref x) (by first | rfl | with_unfolding_all rfl | kernel_rfl) ?_
  refine ks_wpAny_isType_cls hC₁ rfl ⟨rfl, ?_⟩
  refine ks_wpAny_call_super hC₁ rfl hx₁ rfl (fun c e => by cases e) (looks_mroIn X₁ T.mC) (fun h₂ e₂ k₂ => ?_)
  have X₂ : K.In h₂ := X₁.keeps k₂
  have hx₂ := k₂ _ _ hx₁
  have hC₂ := k₂ _ _ hC₁
  have hn₂ := hns.keeps k₂
  have I₂ : W.InstAt h₂ x (excO C t0) C none := ⟨hx₂, rfl, rfl, trivial⟩
  have hxC : x ≠ C := fun z => by rw [z, show K.lookup C = _ from hC] at hnx; cases hnx
  refine kxs_getMethod kxs_ValueError e₂ (looks_opaque X₂ T.any) (l₀ := .ref C :: bm) (l := bm) ((W.looks_clsIn X₂ hcl).andThen .now) ?_ X₂ ?_ (I₂.type.andThen (looks_subIn X₂ T.veC)) hxC rfl ?_
  · simp [List.dropWhile_cons]
  · have z := T.sup
    unfold ks_superIn at z
    rw [hcl] at z
    simpa [List.dropWhile_cons] using z
  have FB := F.excBase_ValueError
  have k₃ : ∀ b o, h₂.get? b = some o → (h₂.push (kxs_mw "ValueError.__init__" x)).get? b = some o := fun b o e => Heap.get?_push_of_some _ e
  refine kxs_callWith (i := "ValueError.__init__") (x := x) (by rfl) (evalArgs_plain ?_)
  have hn₃ := hn₂.keeps k₃
  show wpAny _ _ (spliced ((false, eval (.Name "reason" a4) _) :: [])) _ _ _
  refine spliced_cons (wpAny_Name (wpAny_loadName_local rfl rfl hn₃ (v := v) (by first | rfl | with_unfolding_all rfl | kernel_rfl) ?_) (by decide))
  refine spliced_nil ⟨Heap.get?_push_at rfl rfl, ?_⟩
  refine call_mw (u := h₂.objs.size) (t0 := t0) FB (k₃ _ _ hC₂) (k₃ _ _ hx₂) (Heap.get?_push_at rfl rfl) (by rw [sizeLine_eq]; exact (by decide : 1 ≤ 16777216)) fun h₄ t1 k₄ hx₄ => ?_
  have X₄ : K.In h₄ := fun a o e => k₄ a o (fun z => by rw [z, hnx] at e; cases e) (k₃ _ _ (X₂ _ _ e))
  have hxL : s.heap.objs.size ≠ x := Nat.ne_of_gt (Heap.lt_size hx)
  have hn₄ := Heap.Ns.at hn₃ (h' := h₄) fun o e => k₄ _ o hxL e
  -- self.reason = reason
  refine wpAt_of_wpAny (wpAny_execs_cons (plainObj_wpAny_Assign_Attribute ?_))
  refine wpAny_Name (wpAny_loadName_local rfl rfl hn₄ (v := v) (by first | rfl | with_unfolding_all rfl | kernel_rfl) ?_) (by decide)
  refine wpAny_Name (wpAny_loadName_local rfl rfl hn₄ (v := .ref x) (by first | rfl | with_unfolding_all rfl | kernel_rfl) ?_) (by decide)
  refine set_plain X₄ (ox := excO C t1) (od := none) ⟨hx₄, rfl, rfl, trivial⟩ T.sa ?_
  refine exc_osa X₄ hx₄ hcl (show refsVE (.ref C :: bm) = true from hbm) rfl T.noN (fun h₅ tk₅ dx k₅ dn dne hx₅ hn₅ => ?_)
  show wpAny _ _ (execs _ _) _ _ _
  have z : s.heap.objs.size < h₄.objs.size := hn₄.lt
  exact wpAny_execs_nil (hq h₅ tk₅ dx t1 ⟨fun b o hb e => k₅ b o hb (k₄ b o hb (k₃ _ _ (k₂ _ _ (k b o e)))), hx₅, Nat.le_of_lt (Nat.lt_of_lt_of_le z dn), dne, hn₅⟩)
/-- a made one -/
structure OwnMade (h h' : Heap) (e C d : Addr) (v : Value) : Prop where
  keep : ∀ b o, h.get? b = some o → h'.get? b = some o
  new : h.objs.size ≤ e
  obj : ∃ oe vs, h'.get? e = some oe ∧ oe.cls = .ref C ∧ oe.dict = some d ∧ oe.data = .fields vs ∧ vs[1]? = some .none
  dbig : h.objs.size ≤ d
  dne : d ≠ e
  ns : h'.Ns1 d (fun y => if y = "reason" then some v else none)
theorem one_size (v : Value) : [v].length ≤ sizeLine := by
  rw [sizeLine_eq]
  exact (by decide : 1 ≤ 16777216)
theorem ref_made (T : RefTxt prog K C fI) {mg mb : Str → Option Value} {v : Value} (X : K.In s.heap) (G : s.heap.Ns mainGlobals mg) (B : s.heap.Ns builtinsNs mb) (hb : ∀ x : Str, x ≠ "__name__" → mb x = bootBuiltins x) (hlim : s.heap.NoLimit) (hroom : A.depth + 1 < recursionLimit)
    (hq : ∀ h' tk e d, OwnMade s.heap h' e C d v → R (.ok (.ret (.ref e))) { s with heap := h', toks := tk }) :
    codeAny (model prog w) A (.call (.ref C) ⟨[v], []⟩) R s := by
  obtain ⟨nm, q, N, bs, bm, sn, sub, ab, col, dd, k0, k1, k2, k3, k5, hC, hbm⟩ := T.cls
  obtain ⟨hp, g, dr, tk, os⟩ := s
  have k : ∀ b o, hp.get? b = some o → ((hp.push (kdv_tup [v])).push (excO C hp.objs.size)).get? b = some o := fun b o e => Heap.get?_push_of_some _ (Heap.get?_push_of_some _ e)
  have hget : ((hp.push (kdv_tup [v])).push (excO C hp.objs.size)).get? (hp.objs.size + 1) = some (excO C hp.objs.size) := by heap_get
  have hnx : K.lookup (hp.objs.size + 1) = none := by
    cases e : K.lookup (hp.objs.size + 1) with
    | none => rfl
    | some o =>
      have z : hp.get? (hp.objs.size + 1) = some o := X _ _ e
      exact absurd (Nat.lt_of_succ_lt (Heap.lt_size z)) (Nat.lt_irrefl _)
  refine call_own F.excBase_ValueError (fun X => refsVE_contains X bm hbm) (X _ _ hC) (looks_findIn X T.iC) (fun self => bind_fn X self T.tC) (one_size v) ?_
  refine ref_init (s := ⟨(hp.push (kdv_tup [v])).push (excO C hp.objs.size), g, dr, tk, os⟩) T (X.keeps k) (G.keeps k) (B.keeps k) hb (hlim.keeps k) hget hnx ?_ fun h' tk' dx t1 ⟨k', hx, dn, dne, hns⟩ => ?_
  · show A.depth + 1 < recursionLimit
    exact hroom
  · have old : ∀ b o, hp.get? b = some o → h'.get? b = some o := fun b o e => k' b o (Nat.ne_of_lt (Nat.lt_succ_of_lt (Heap.lt_size e))) (k b o e)
    have z : hp.objs.size + 1 + 1 ≤ dx := by
      first
        | (simpa only [Heap.size_push] using dn)
        | exact dn
        | (have q := dn; rw [Heap.size_push, Heap.size_push] at q; exact q)
    exact ⟨rfl, hq h' tk' (hp.objs.size + 1) dx ⟨old, Nat.le_succ _, ⟨_, _, hx, rfl, rfl, rfl, rfl⟩, Nat.le_trans (Nat.le_trans (Nat.le_succ _) (Nat.le_succ _)) z, dne, hns⟩⟩
end
end RefX
end PySem
namespace L2
open PySem PySem.Spec PyProof.Rows
theorem relO_ref {v : V} {v' : Value} (r : RelV v v') (f : Str) : RelO (List.lookup f [(("reason" : Str), v)]) (if f = "reason" then some v' else none) := by
  by_cases hw : f = "reason"
  · subst hw
    rw [if_pos rfl]
    have q : List.lookup ("reason" : Str) [(("reason" : Str), v)] = some v := by simp [List.lookup]
    rw [q]
    exact r
  · rw [if_neg hw]
    have qw : (f == ("reason" : Str)) = false := by simpa using hw
    have q2 : List.lookup f [(("reason" : Str), v)] = none := by simp [List.lookup, qw]
    rw [q2]
    trivial
section
variable {X : Cx} {C fI : Addr}
/-- C(e) -/
def tMkRef (C : Addr) (ta : TA) : St → Hp → XK → Prop := fun σ H Q => ta σ H fun vs H1 => ∃ v, vs = [v] ∧ ∀ d, H1 d = none → Q (.ref C) (some d) (upd H1 d (.xd [(("reason" : Str), v)]))
theorem pmk_ref {x : Str} {a : Expr} {ta : TA} {p pos : Pos} {k : Nat} (T : PySem.RefX.RefTxt X.prog X.K C fI) (hm : X.mg x = some (.ref C)) (hr : Room k X.A) (ha : PA X [a] ta) (hg : Gl X x) (hdb : (x == ("__debug__" : Str)) = false)
    (he : starEach (a :: []) X.env = (false, eval a X.env) :: starEach [] X.env := by rfl) (hpl : (backTo pos (starEach [] X.env)).any (·.1) = false := by rfl) :
    PMk X (.Call (.Name x p) [a] [] pos) (tMkRef C ta) := by
  intro pins s σ H Q I h
  refine wpAny_Call_Name_kw (ld_glob I hg hm ?_ hdb)
  refine PySem.W.callWith_K (h₀ := X.base) I.ok.mod.kin T.kC (thn (ha.run pos pins s σ H _ I h) fun us s1 hh => ?_) he hpl
  obtain ⟨vs, H1, I1, r1, v, ev, q1⟩ := hh
  subst ev
  refine ⟨I1.kIn, ?_⟩
  cases r1 with
  | cons rv rn =>
    rename_i v' us'
    cases rn
    show wpAny _ _ (call (.ref C) [v']) _ _ _
    have hlim := I1.nolimit
    have hG := I1.mod.glob.keeps I1.bk
    obtain ⟨mb, hB, hb⟩ := I1.mod.blt
    have hB := hB.keeps I1.bk
    obtain ⟨hp, g, dr, tk, os⟩ := s1
    refine wpAny_call (PySem.RefX.ref_made T I1.kIn hG hB hb hlim (by have := hr.dp; omega) fun h' tk' e d M => ?_)
    show MkP X pins σ Q (.ref e) ⟨h', g, dr, tk', os⟩
    obtain ⟨oe, fv, hoe, hc, hd, hdat, h1⟩ := M.obj
    have hns := M.ns
    obtain ⟨G', g1, g2⟩ := restrict h' fun b => decide (b ≠ e)
    have gk : ∀ b, b ≠ e → G'.get? b = h'.get? b := fun b hb => g1 b (decide_eq_true hb)
    have ge : G'.get? e = none := g2 e (by simp)
    have old : ∀ b o, hp.get? b = some o → G'.get? b = some o := fun b o q => (gk b (Nat.ne_of_lt (Nat.lt_of_lt_of_le (Heap.lt_size q) M.new))).trans (M.keep b o q)
    have ob : ObjOk X.prog X.w (upd H1 d (.xd [(("reason" : Str), v)])) G' d (.xd [(("reason" : Str), v)]) :=
      ⟨_, hns.at (fun o q => (gk d M.dne).trans q), fun f => relO_ref rv f⟩
    have J : Inv X pins σ (upd H1 d (.xd [(("reason" : Str), v)])) ⟨G', g, dr, tk', os⟩ := I1.laid (t' := tk') old M.dbig ob
    refine ⟨e, oe, fv, ⟨G', g, dr, tk', os⟩, _, .ref C, some d, rfl, J, fun b o q => ?_, ge, hoe, ⟨hc, hd⟩, hdat, h1, ?_, rfl, I1.bare, raises_own T.exC T.tyC, q1 d (I1.hok.fresh M.dbig)⟩
    · by_cases hb : b = e
      · have q' : G'.get? b = some o := q
        rw [hb, ge] at q'; cases q'
      · exact (gk b hb).symm.trans q
    · rw [upd_ne (Ne.symm M.dne)]
      exact I1.hok.fresh M.new
/-- n.reason, n the exception that the suite holds (at a; its class cls, its dict d) -/
def tByRef (C : Addr) (a : Addr) (cls : Value) (d : Option Addr) (te : TE) : TE := fun σ H Q => te σ H fun x H1 => x = .ref a ∧ cls = .ref C ∧ ∃ (dd : Addr) (v : V), d = some dd ∧ H1 dd = some (.xd [(("reason" : Str), v)]) ∧ Q v H1
theorem pe_byRef {prog : Program} {a : Addr} {oe : Obj} {cls : Value} {d : Option Addr} {pn : List (Addr × Obj)} {e : Expr} {te : TE} {pos : Pos} (T : PySem.RefX.RefTxt prog X.K C fI) (hz : Zc cls d oe) (hf : ∃ vs, oe.data = .fields vs) (he : PE (X.suite a ((a, oe) :: pn)) e te)
    (hb : attributeBase e "reason" X.env (eval e X.env) = eval e X.env := by rfl) :
    PE (X.suite a ((a, oe) :: pn)) (.Attribute e "reason" pos) (tByRef C a cls d te) := by
  refine ⟨fun pins s σ H Q I h => ?_⟩
  refine attr_of hb (thn (he.run pins s σ H _ I h) fun u s1 hh => ?_)
  obtain ⟨x, H1, I1, rx, ex, ec, dd, v, ed, ea, q⟩ := hh
  subst ex
  obtain rfl : u = Value.ref a := rx
  subst ec
  subst ed
  obtain ⟨ha, _⟩ := I1.pin (a, oe) (List.mem_append_left _ List.mem_cons_self)
  obtain ⟨vs, hd⟩ := hf
  have hx : ObjOk X.prog X.w H1 s1.heap dd (.xd [(("reason" : Str), v)]) := I1.hok dd _ ea
  obtain ⟨mA, hns, hr⟩ := hx
  obtain ⟨od, ho, hl⟩ := lookIn_ns hns
  have l : List.lookup ("reason" : Str) [(("reason" : Str), v)] = some v := by simp [List.lookup]
  obtain ⟨u, hu, ru⟩ := RelO.some_of (v := v) (o := mA "reason") (by rw [← l]; exact hr "reason")
  have J : PySem.W.InstAt s1.heap a oe C (some od) := ⟨ha, hz.1, by unfold PySem.W.notCls; rw [hd] <;> rfl, by rw [hz.2]; exact ho⟩
  exact HandSPX.exc_get I1.kIn J T.ga T.gg T.exC (PySem.W.findObj_own T.hdC T.noN rfl (by rw [hl, hu])) (handed_of ru) ⟨v, H1, I1.tok _, ru, q⟩
end
end L2

set_option Elab.async false
set_option linter.all false
set_option maxRecDepth 100000
set_option maxHeartbeats 2000000
namespace L2
open PySem PySem.Spec PyProof.Rows
/-- the ends of a suite whose error stands in slot i (none: nowhere) -/
def dMix (i : Option Nat) (D : Ends) : Ends := match i with
  | none => D
  | some i => { nx := fun σ' H' => D.nx (σ'.set i none) H', rt := D.rt, bk := fun σ' H' => D.bk (σ'.set i none) H', ct := fun σ' H' => D.ct (σ'.set i none) H' }
def sMix (i : Option Nat) (a : Addr) (σ : St) : St := match i with
  | none => σ
  | some i => σ.set i (some (.ref a))
abbrev Cl := Value × Option Nat × (Addr → Value → Option Addr → TS)
def wMix (K : PySem.W.Frag) (Wout : WX) (D : Ends) : List Cl → WX
  | [] => Wout
  | (c, i, ts) :: r => fun cls d σ H => ∃ b, PySem.W.exmOne K cls c = some b ∧ (b = true → ∀ a, H a = none → ts a cls d (dMix i D) (sMix i a σ) H) ∧ (b = false → wMix K Wout D r cls d σ H)
inductive HdMix (X : Cx) : List ExceptHandler → List Cl → Prop
  | nil : HdMix X [] []
  | cons {x : Str} {on : Option Str} {c : Value} {i : Option Nat} {ts : Addr → Value → Option Addr → TS} {b₀ : Stmt} {suite : List Stmt} {np pos' : Pos} {hds : List ExceptHandler} {l : List Cl} (hc : Names X x c)
      (hon : match on, i with | none, none => True | some n, some i => X.N[i]? = some n ∧ X.env.kindOf n = some .local | _, _ => False)
      (hsu : ∀ (a : Addr) (oe : Obj) (cls : Value) (d : Option Addr) (pn : List (Addr × Obj)), Zc cls d oe → (∃ vs, oe.data = .fields vs) → PSs (X.suite a ((a, oe) :: pn)) (b₀ :: suite) (ts a cls d)) (r : HdMix X hds l) :
      HdMix X (.ExceptHandler (some (.Name x np)) on (b₀ :: suite) pos' :: hds) ((c, i, ts) :: l)
section
variable {X : Cx} {body : List Stmt} {h₀ : ExceptHandler} {hds : List ExceptHandler} {l : List Cl} {pos : Pos} {tb : WX → TS} {Wout : WX}
theorem ps_try_mix (hs : X.stack = X.env :: X.outer) (hf : X.env.frame = some X.env.locals) (hN : X.N.Nodup) (tk : Takes X Wout)
    (hb : ∀ (W : WX) (pn : List (Addr × Obj)) (xe : Value → Shared → Prop), Takes (X.tr pn xe) W → PassesOwn (model X.prog X.w) X.A X.env xe → PSs (X.tr pn xe) body (tb W))
    (hh : HdMix X (h₀ :: hds) l) : PS X (.Try body (h₀ :: hds) [] [] pos) (fun D σ H => tb (wMix X.K Wout D l) D σ H) := by
  refine ⟨fun pins s σ H D I h => ?_⟩
  have ok := I.ok
  have hfr : X.A.frames = some (X.env :: X.outer) := by rw [ok.frames, hs]
  refine wpAny_Try_except ?_
  refine wpAny_mono ((hb (wMix X.K Wout D l) (X.pn ++ pins) (fun e s₁ => wpAny (model X.prog X.w) X.A (noteFrame e X.env) (fun _ s₂ => wpAny (model X.prog X.w) X.A (setFlight e none) (fun _ s₃ =>
    wpAny (model X.prog X.w) X.A (handleBy e X.env (h₀ :: hds)) (SP X pins D) X.xe s₃) X.xe s₂) X.xe s₁) (fun u s' xx => ?_) PassesOwn.looking).run [] s σ H D (I.toTry _) h) (fun f s1 hsp => ?_) (fun e s1 he => he)
  · obtain ⟨a, B, sI, pins', σ', H', cls, d, rfl, J', nb, up, sky, na, os, ag, w⟩ := xx
    have J : Inv X pins σ' H' sI := J'.ofTry ok
    have sky' : Sky B (X.env :: X.outer) a (Zc cls d) X.env.locals s'.heap := by rw [← hs]; exact sky
    show wpAny (model X.prog X.w) X.A (noteFrame (.ref a) X.env) _ _ _
    refine Sky.land Zc.steady hfr hf sky' fun h3 fl3 up3 => ?_
    have J3 : Inv X pins σ' H' { s' with heap := h3 } := J.landed nb fl3.1 (up.trans up3) os ag
    obtain ⟨oe3, vs3, he3, hz3, hd3⟩ := fl3.there
    have notFr : ∀ {h : Heap} {o : Obj} {vs : Array Value}, h.FunFrames B (X.env :: X.outer) → h.get? a = some o → o.data = .fields vs → a ∉ frs (X.env :: X.outer) := fun {h o vs} ff e dd hm => by
      obtain ⟨_, o', e', hnf⟩ := ff.mem hm
      rw [e] at e'; cases e'
      exact hnf _ dd
    have nfr := notFr fl3.2.2.1 he3 hd3
    have nL : a ≠ X.env.locals := fun z => nfr (List.mem_filterMap.mpr ⟨X.env, List.mem_cons_self, by rw [hf, z]⟩)
    have nF : a ∉ X.fs := fun hm => by
      obtain ⟨e, he, q⟩ := List.mem_filterMap.mp hm
      exact nfr (List.mem_filterMap.mpr ⟨e, List.mem_cons_of_mem _ he, q⟩)
    have S3 := J3.suite he3 hd3 na nL nF
    have go : ∀ {hds' : List ExceptHandler} {l' : List Cl}, HdMix X hds' l' → wMix X.K Wout D l' cls d σ' H' →
        wpAny (model X.prog X.w) X.A (handleBy (.ref a) X.env hds') (SP X pins D) X.xe { s' with heap := h3 } := by
      intro hds' l' hk
      induction hk with
      | nil =>
        intro w
        refine wpAny_handleBy_nil ?_
        obtain ⟨k1, k2, k3, oe, vs, T, oT, ts', he, hz, hd, h1, hr⟩ := id fl3
        unfold PySem.passOn
        refine wpAny_bind (wpAny_field he hd h1 ?_)
        rw [if_neg (show ¬ ((Value.ref T == Value.none) = true) from by simp)]
        have fin : wpAny (model X.prog X.w) X.A (setFlight (.ref a) X.env.frame) (fun _ s4 => wpAny (model X.prog X.w) X.A (throw (.ref a) : Sem Flow) (SP X pins D) X.xe s4) X.xe { s' with heap := h3 } := by
          rw [hf]
          refine HandSPX.setFlight_upZ fl3 fun h4 hh4 up4 => wpAny_throw (tk _ _ ?_)
          exact ⟨a, B, sI, pins, σ', H', cls, d, rfl, J, nb, (up.trans up3).trans up4, .inr (.inr (by rw [hs]; exact hh4)), na, os, ag, w⟩
        first
          | exact wpAny_bind (wpAny_pure (wpAny_bind fin))
          | exact wpAny_bind fin
      | @cons x on c i ts b₀ suite np pos' hds2 l2 hc hon hsu r ih =>
        intro w
        obtain ⟨b, hb1, hyes, hno⟩ := w
        have LT : PySem.W.Looks (model X.prog X.w) h3 (typeOf (.ref a)) cls := fun A Q E s k q => wpAny_typeOf_ref (k _ _ he3) (by rw [hz3.1]; exact q)
        have LM := PySem.W.exm_one (M := model X.prog X.w) (J3.kIn) LT hb1
        have test : ∀ {Q : Value → Shared → Prop} {E : Value → Shared → Prop}, Q c { s' with heap := h3 } → wpAny (model X.prog X.w) (X.A.mark (some (.ref a))) (eval (.Name x np) X.env) Q E { s' with heap := h3 } := fun {Q E} q => by
          obtain ⟨hg, hdbg, hm | ⟨hm, hv, hnn⟩⟩ := hc
          · exact ld_glob (X := X.suite a ((a, oe3) :: (X.pn ++ pins))) S3 hg hm q hdbg
          · exact ld_blt (X := X.suite a ((a, oe3) :: (X.pn ++ pins))) S3 hg hm hv q hnn hdbg
        refine wpAny_handleBy_cons (codeAny_handlers_test ?_) (by intro q; cases q)
        refine test (LM.here ?_)
        cases b with
        | false =>
          show wpAny _ X.A (handleBy (.ref a) X.env hds2) _ _ _
          exact ih (hno rfl)
        | true =>
          cases on with
          | none =>
            cases i with
            | some i => exact hon.elim
            | none =>
              refine codeAny_handlers_suite ?_
              refine HandSPX.lands_againZ fl3 fun h4 fl4 up4 => ?_
              have J4 : Inv X pins σ' H' { s' with heap := h4 } := J.landed nb fl4.1 ((up.trans up3).trans up4) os ag
              obtain ⟨oe4, vs4, he4, hz4, hd4⟩ := fl4.there
              have S4 := J4.suite he4 hd4 na nL nF
              refine wpAny_mono ((hsu a oe4 cls d (X.pn ++ pins) hz4 ⟨_, hd4⟩).run [] _ _ H' _ S4 (hyes rfl a na)) (fun f s6 hsp => ?_) (fun _ _ z => False.elim z)
              cases f with
              | ret u =>
                obtain ⟨v6, σ6, H6, S6, r6, q6⟩ := hsp
                exact ⟨_, _, _, S6.unsuite ok, r6, q6⟩
              | _ =>
                obtain ⟨σ6, H6, S6, q6⟩ := hsp
                exact ⟨_, _, S6.unsuite ok, q6⟩
          | some n =>
            cases i with
            | none => exact hon.elim
            | some i =>
              obtain ⟨hi, hln⟩ := hon
              have hloc : Loc X.env.scope n := .inl hln
              refine codeAny_handlers_suite_as ?_
              refine HandSPX.lands_againZ fl3 fun h4 fl4 up4 => ?_
              have J4 : Inv X pins σ' H' { s' with heap := h4 } := J.landed nb fl4.1 ((up.trans up3).trans up4) os ag
              obtain ⟨oe4, vs4, he4, hz4, hd4⟩ := fl4.there
              have S4 := J4.suite he4 hd4 na nL nF
              refine store_ok (X := X.suite a ((a, oe4) :: (X.pn ++ pins))) (v := .ref a) S4 hN hi hloc rfl (fun s5 S5 => ?_) (.inr hln)
              refine wpAny_mono ((hsu a oe4 cls d (X.pn ++ pins) hz4 ⟨_, hd4⟩).run [] s5 _ H' _ S5 (hyes rfl a na)) (fun f s6 hsp => ?_) (fun _ _ z => False.elim z)
              have end_ : ∀ {σ6 : St} {H6 : Hp} {Q : Shared → Prop}, Inv (X.suite a ((a, oe4) :: (X.pn ++ pins))) [] σ6 H6 s6 → (∀ s7, Inv X pins (σ6.set i none) H6 s7 → Q s7) →
                  wpAny (model X.prog X.w) X.A (do bindName X.env n .none; unbindBehindTheSuite X.env n pos') (fun _ s7 => Q s7) X.xe s6 := fun {σ6 H6 Q} S6 hq => gone_ok (S6.unsuite ok) hN hi hln hq
              cases f with
              | ret u =>
                obtain ⟨v6, σ6, H6, S6, r6, q6⟩ := hsp
                exact end_ S6 fun s7 J7 => ⟨_, _, _, J7, r6, q6⟩
              | _ =>
                obtain ⟨σ6, H6, S6, q6⟩ := hsp
                exact end_ S6 fun s7 J7 => ⟨_, _, J7, q6⟩
    exact go hh w
  · cases f with
    | next =>
      obtain ⟨σ', H', J', q⟩ := hsp
      exact wpAny_execs_nil ⟨σ', H', J'.ofTry ok, q⟩
    | ret u =>
      obtain ⟨v, σ', H', J', r, q⟩ := hsp
      exact ⟨v, σ', H', J'.ofTry ok, r, q⟩
    | _ =>
      obtain ⟨σ', H', J', q⟩ := hsp
      exact ⟨σ', H', J'.ofTry ok, q⟩
end
end L2

set_option Elab.async false
set_option linter.all false
set_option maxRecDepth 100000
set_option maxHeartbeats 4000000
/-! isinstance(e, C), e a caught error that may have a dict of its own -/
namespace PySem.W
open PySem PySem.Spec PySem.Calls PyProof.Rows
section
variable {prog : Program} {w : World} {A : Around} {E : Value → Shared → Prop} {s : Shared} {K : Frag} {x D : Addr} {ox : Obj} {od : Option Obj}
theorem px_found {C : Addr} {name : Str} {a g : Value} (hc : (clsIn K C).isSome = true) (ha : findIn K (.ref C) name = some (some a)) (hg : specialIn K a "__get__" = some (some g)) (ht : takesIn K a = some true) : findObj K C od name = some (.bind g a) := by
  obtain ⟨cd, hc⟩ := Option.isSome_iff_exists.mp hc
  unfold findObj
  rw [hc, Option.bind_some, ha, Option.bind_some]
  simp [hg, ht]
theorem px_class {Q : Option Value → Shared → Prop} (C : L2.ExcC K D) (X : K.In s.heap) (I : InstAt s.heap x ox D od) (h : Q (some (.ref D)) { s with toks := s.toks + 1 }) : wpAny (model prog w) A (getAttr? (.ref x) "__class__") Q E s := by
  have hf : findObj K D od "__class__" = some (.bind (.builtin "getset_descriptor.__get__") (.builtin "object.__class__")) := px_found (by obtain ⟨cd, hc, _⟩ := any_some C.hd; rw [hc]; rfl) C.ha C.hn C.ht
  obtain ⟨hp, g, d, t, os⟩ := s
  have L0 := I.type (M := model prog w)
  have L1 := looks_findIn (M := model prog w) X C.hg
  have L2 := looks_findIn (M := model prog w) X C.hk
  have L3 := looks_find (M := model prog w) X I hf
  have sub : Looks (model prog w) hp (isInstance (.ref x) (.type "BaseException")) true := L0.andThen (looks_subIn X C.hs)
  have hx2 : (Value.builtin "BaseException.__getattribute__" == Value.builtin "object.__getattribute__") = false := by decide +kernel
  have hx1 : (onTheHeap (Value.ref D) && Value.builtin "BaseException.__getattribute__" == Value.builtin "object.__getattribute__") = false := by rw [hx2]; rfl
  unfold getAttr? getAttrBy? getAttrBy
  refine wpAny_bind (wpAny_mkText (wpAny_bind (wpAny_attempt (wpAny_holding (wpAny_bind (L0.at (wpAny_bind (L1.at ?_))))))))
  show wpAny _ _ (if (onTheHeap (Value.ref D) && Value.builtin "BaseException.__getattribute__" == Value.builtin "object.__getattribute__") = true then _ else _) _ _ _
  rw [hx1, if_neg Bool.false_ne_true]
  unfold getAttrByItsOwn hookBefore
  refine wpAny_bind ?_
  rw [if_pos (show onTheHeap (Value.ref D) = true from rfl)]
  refine L2.at ?_
  refine wpAny_bind (wpAny_attempt (wpAny_holding ?_))
  unfold callGetattribute
  rw [if_neg (show ¬ ((false && onTheHeap (Value.builtin "BaseException.__getattribute__")) = true) from Bool.false_ne_true)]
  unfold boundAndCalled
  rw [PySem.F.excAttr_ValueError.ga.bind (.ref x)]
  refine wpAny_bind (wpAny_pure ?_)
  show wpAny _ _ (call (.builtin "BaseException.__getattribute__") [.ref x, .str "__class__" t]) _ _ _
  refine wpAny_call (codeAny_call_builtin PySem.F.excAttr_ValueError.ga.plain PySem.F.entry_bexc_ga ?_)
  refine @check_slot (model prog w) _ _ ⟨hp, g, d, t + 1, os⟩ "BaseException.__getattribute__" "BaseException" "__getattribute__" (.ref x) [.str "__class__" t] [] _ (by decide +kernel) (by decide +kernel) sub (PySem.F.args_bexc_ga (.ref x) (.str "__class__" t)) ?_
  unfold Builtin.«object.__getattribute__»
  refine wpAny_bind (wpAny_of_eq (a := ((Value.ref x : Value), [Value.str "__class__" t])) (by first | rfl | (simp only [slotArgs]; rfl)) ?_)
  refine wpAny_bind (wpAny_pure (wpAny_bind (L0.at (wpAny_bind (L3.at ?_)))))
  show wpAny _ _ (holding [Value.builtin "object.__class__"] (call (.builtin "getset_descriptor.__get__") [.builtin "object.__class__", .ref x, .ref D]) >>= ret) _ _ _
  refine wpAny_bind (wpAny_holding (wpAny_call (class_get (s := ⟨hp, g, d, t + 1, os⟩) (ox := ox) (od := od) X I C.hm ?_)))
  refine wpAny_pure ?_
  show wpAny _ _ (handedOut (.ref D)) _ _ _
  rw [handedOut_of (v := .ref D) rfl]
  first
    | exact wpAny_pure (wpAny_pure h)
    | exact wpAny_pure h
    | exact wpAny_pure (wpAny_bind (wpAny_pure (wpAny_pure h)))
theorem px_kit (C : L2.ExcC K D) : KitX K (.ref x) (.ref D) (fun h => InstAt h x ox D od) where
  ty := fun _ _ _ I => I.type
  it := fun _ _ X _ => by
    obtain ⟨cdD, hcD, _⟩ := any_some C.hd
    unfold clsIn at hcD
    split at hcD
    · rename_i c' d' cd' sl' ho
      intro A' Q' E' s' k q
      unfold isType loadHead
      exact wpAny_bind (wpAny_loadPart (k _ _ (X _ _ ho)) (wpAny_pure q))
    · cases hcD
  ne := fun h tp dd its n sl X htp => by
    obtain ⟨cdD, hcD, _⟩ := any_some C.hd
    refine Bool.eq_false_iff.mpr fun q => ?_
    have e : D = tp := Value.ref.inj (beq_iff_eq.mp q)
    subst e
    unfold clsIn at hcD
    split at hcD
    · rename_i c' d' cd' sl' ho
      have z := (X _ _ ho).symm.trans htp
      cases z
    · cases hcD
  ca := fun X I k => px_class C X I k
end
end PySem.W
namespace L2
open PySem PySem.Spec PyProof.Rows
/-- what the heap says of an error's dict -/
def DOk (H : Hp) (d : Option Addr) : Prop := d = none ∨ ∃ dd fs, d = some dd ∧ H dd = some (.xd fs)
def rIsX (K : PySem.W.Frag) (D a : Addr) (d : Option Addr) : List V → Hp → VK → Prop := fun xs H Q => ∃ (c : V) (cv : Value) (b : Bool), xs = [.ref a, c] ∧ (∀ u, RelV c u → u = cv) ∧ PySem.W.kitOne K (.ref D) cv = some b ∧ DOk H d ∧ Q (.bl b) H
theorem call_isX {X : Cx} {a D : Addr} {d : Option Addr} {oe : Obj} {pn : List (Addr × Obj)} (C : ExcC X.K D) (hz : Zc (.ref D) d oe) (hf : ∃ vs, oe.data = .fields vs) : CallR (X.suite a ((a, oe) :: pn)) (.builtin "isinstance") (rIsX X.K D a d) := by
  intro pins s σ H xs us Q I r h
  obtain ⟨c, cv, b, rfl, hcv, e, dk, q⟩ := h
  cases r with
  | cons rx rr =>
    cases rr with
    | cons rt rr =>
      cases rr
      cases rx
      have ec := hcv _ rt
      subst ec
      obtain ⟨hget, _⟩ := I.pin (a, oe) (List.mem_append.mpr (.inl List.mem_cons_self))
      obtain ⟨vs, hv⟩ := hf
      have J : ∃ od, PySem.W.InstAt s.heap a oe D od := by
        obtain ⟨oc, od, oda, osl⟩ := oe
        obtain ⟨h1, h2⟩ := hz
        dsimp only at h1 h2 hv
        subst h1 h2 hv
        rcases dk with rfl | ⟨dd, fs, rfl, hd⟩
        · exact ⟨none, hget, rfl, rfl, trivial⟩
        · have hx : ObjOk X.prog X.w H s.heap dd (.xd fs) := I.hok dd _ hd
          obtain ⟨mA, hns, _⟩ := hx
          obtain ⟨o, _, _, ho, _⟩ := hns
          exact ⟨some o, hget, rfl, rfl, ho⟩
      obtain ⟨od, J⟩ := J
      exact PySem.W.kia_one (PySem.W.px_kit C) I.kIn J e (fun z => nomatch z) fun tk => ⟨.bl b, H, I.kept (t' := tk) fun _ _ z => z, rfl, q⟩
end L2

set_option Elab.async false
set_option linter.all false
set_option maxRecDepth 100000
set_option maxHeartbeats 4000000
/-! a tuple once over -/
namespace Py
open PySem PySem.Spec PyProof.Rows L2
theorem tup_once (l : Addr) (items : Array Value) (n : Nat) (u : Tok) (hne : items.isEmpty = false) :
    Meets (Builtin.«tuple.__mul__» ⟨[.ref l, .int 1 u], []⟩) (fun _ R s => (∃ dd sl, s.heap.get? l = some { cls := .type "tuple", dict := dd, data := .seq items n, slots := sl }) ∧ R (.ok (.ret (.ref l))) s) := by
  refine .of_wp fun prog w A R s h => ?_
  obtain ⟨hp, g, d, tk, os⟩ := s
  obtain ⟨⟨dd, sl, hl⟩, h⟩ := h
  have f1 := AutoSeq1.idx_int
  wp_walk using wpAny_loadPart' hl
  exact ⟨_, rfl, h⟩
def rOnce (K : PySem.W.Frag) : R2 := fun x y H Q => ∃ l xs, x = .ref l ∧ y = .int 1 ∧ SqT K H l xs ∧ xs ≠ [] ∧ Q (.ref l) H
theorem op_once {X : Cx} : OpR X (binaryOp .Mult) (rOnce X.K) := by
  intro pins s σ H x y v u Q I rx ry h
  obtain ⟨l, xs, rfl, rfl, hT, hne, q⟩ := h
  cases rx
  obtain ⟨t, rfl⟩ := ry
  obtain ⟨its, r, ⟨⟨cls, dd, data, sl⟩, ho, hc, n, hd⟩, hs⟩ := I.tuple hT
  simp only at hc hd
  subst hc hd
  have hi : its.toArray.isEmpty = false := by
    cases its with
    | nil =>
      have hle := r.length
      exact absurd (List.eq_nil_of_length_eq_zero hle) hne
    | cons a b => rfl
  have ht : s.TypeIs (.ref l) "tuple" := ⟨_, ho, rfl⟩
  have back := call_meets (prog := X.prog) (w := X.w) (A := X.A) (E := X.xe) F.slot_tuple_mul ht F.entry_tuple_mul (F.args_tuple_mul_2 _ _) (tup_once l its.toArray n t hi)
    (Q := EP X pins σ Q) ⟨⟨dd, sl, ho⟩, .ref l, H, I, rfl, q⟩
  have rev := call_meets (prog := X.prog) (w := X.w) (A := X.A) (E := X.xe) (s := s) F.slot_int_rmul (typeIs_int s 1 t) F.entry_int_rmul (F.args_int_rmul_2 _ _) (int_rmul_tuple 1 t l its.toArray n dd sl)
    (Q := fun v s' => v = Value.notImplemented ∧ s'.TypeIs (.ref l) "tuple" ∧ wpAny (model X.prog X.w) X.A (call (.builtin "tuple.__mul__") [.ref l, .int 1 t]) (EP X pins σ Q) X.xe s') ⟨ho, rfl, ht, back⟩
  exact wpAny_binaryOp_repeat_ref (by decide) ht (fun s' => typeIs_int s' 1 t) noFill_tuple_mul F.fills_int_mul F.slot_int_rmul repeat_tuple F.slot_int_index.lookup rev
end Py

set_option Elab.async false
set_option linter.all false
set_option maxRecDepth 100000
set_option maxHeartbeats 1000000
namespace Py
open PySem PySem.Spec PyProof.Rows L2

/-! ### wishes about runs -/
def Wp {α : Type} (m : M α) (s : DS) (Q : α → DS → Prop) (E : Exc → DS → Prop) : Prop := match m s with
  | .ok a s' => Q a s'
  | .exc x s' => E x s'
  | .fail => False
theorem Wp.bind_iff {α β : Type} {m : M α} {k : α → M β} {s : DS} {Q : β → DS → Prop} {E : Exc → DS → Prop} :
    Wp (m >>= k) s Q E ↔ Wp m s (fun a s' => Wp (k a) s' Q E) E := by
  show Wp (M.bind m k) s Q E ↔ _
  unfold Wp M.bind
  cases m s <;> exact Iff.rfl
theorem Wp.of_bind {α β : Type} {m : M α} {k : α → M β} {s : DS} {Q : β → DS → Prop} {E : Exc → DS → Prop} (h : Wp (m >>= k) s Q E) : Wp m s (fun a s' => Wp (k a) s' Q E) E := Wp.bind_iff.mp h
theorem Wp.mono {α : Type} {m : M α} {s : DS} {Q Q' : α → DS → Prop} {E E' : Exc → DS → Prop} (h : Wp m s Q E) (hq : ∀ a s', Q a s' → Q' a s') (he : ∀ x s', E x s' → E' x s') : Wp m s Q' E' := by
  unfold Wp at h ⊢
  cases e : m s with
  | ok a s' => rw [e] at h; exact hq _ _ h
  | exc x s' => rw [e] at h; exact he _ _ h
  | fail => rw [e] at h; exact h
theorem Wp.of_pure {α : Type} {a : α} {s : DS} {Q : α → DS → Prop} {E : Exc → DS → Prop} (h : Wp (pure a : M α) s Q E) : Q a s := h
theorem Wp.of_fail {α : Type} {s : DS} {Q : α → DS → Prop} {E : Exc → DS → Prop} (h : Wp (fail : M α) s Q E) : False := h
theorem Wp.of_ite {α : Type} {c : Prop} [Decidable c] {m n : M α} {s : DS} {Q : α → DS → Prop} {E : Exc → DS → Prop} (h : Wp (if c then m else n) s Q E) : (c ∧ Wp m s Q E) ∨ (¬ c ∧ Wp n s Q E) := by
  by_cases hc : c
  · rw [if_pos hc] at h; exact .inl ⟨hc, h⟩
  · rw [if_neg hc] at h; exact .inr ⟨hc, h⟩
/-- it is there, or it fails -/
theorem Wp.of_guard {α : Type} {c : Prop} [Decidable c] {m : M α} {s : DS} {Q : α → DS → Prop} {E : Exc → DS → Prop} (h : Wp (if c then m else fail) s Q E) : c ∧ Wp m s Q E := by
  rcases Wp.of_ite h with h | ⟨_, h⟩
  · exact h
  · exact h.of_fail.elim

/-! ### data in the heap -/
structure Wd where
  P : Program
  w : World
  K : PySem.W.Frag
  mg : Str → Option Value
  base : Heap
  cap : Addr
  cell : Addr
abbrev Ow := Addr → Option Nat
section
variable (U : Wd)
def Nd (ow : Ow) (H : Hp) (a : Addr) (o : HO) : Prop := H a = some o ∧ ow a = none ∧ a ≠ U.cap
def KT (a : Addr) (xs : List V) : Prop := ∃ (o : Obj) (its : Array Value) (n : Nat), U.K.lookup a = some o ∧ o.cls = .type "tuple" ∧ o.data = .seq its n ∧ its.size ≤ sizeLine ∧ Vals xs its.toList
/-- a written dict of the top, its keys texts -/
def KDs (a : Addr) (xs : List (Key × V)) : Prop := (∃ es n, KDict U.K U.w a es n) ∧ (∀ z : Str, ∃ r, PySem.W.nsIn U.K a z = some r ∧ RelO (valV xs (.inr z)) r) ∧ ∀ p ∈ xs, ∃ z : Str, p.1 = .inr z
mutual
/-- v is the datum d; what may change is not within -/
def Rp (ow : Ow) (H : Hp) : D → V → Prop
  | .none, v => v = .non
  | .bool b, v => v = .bl b
  | .int i, v => v = .int i
  | .str x, v => v = .str x
  | .list ds, v => ∃ a xs, v = .ref a ∧ Nd U ow H a (.lst xs) ∧ RpL ow H ds xs
  | .tuple ds, v => ∃ a xs, v = .ref a ∧ (Nd U ow H a (.tup xs) ∨ KT U a xs) ∧ RpL ow H ds xs
  | .dict kvs, v => (kvs = [(.none, .none)] ∧ v = .ref U.cap) ∨ ∃ a xs, v = .ref a ∧ (Nd U ow H a (.dK xs) ∨ KDs U a xs) ∧ RpD ow H kvs xs
def RpD (ow : Ow) (H : Hp) : List (D × D) → List (Key × V) → Prop
  | [], xs => xs = []
  | p :: r, xs => ∃ kk x ys, xs = (kk, x) :: ys ∧ keyD p.1 = some kk ∧ Rp ow H p.2 x ∧ RpD ow H r ys
def RpL (ow : Ow) (H : Hp) : List D → List V → Prop
  | [], xs => xs = []
  | d :: ds, xs => ∃ x ys, xs = x :: ys ∧ Rp ow H d x ∧ RpL ow H ds ys
end
/-- all but the drawing row stands as before -/
def Ext (H H' : Hp) : Prop := ∀ a u, a ≠ U.cap → H a = some u → H' a = some u
/-- what is shared stands as before -/
def Keep (ow ow' : Ow) (H H' : Hp) : Prop := ∀ a u, a ≠ U.cap → ow a = none → H a = some u → H' a = some u ∧ ow' a = none
structure Cap (H : Hp) (s : DS) : Prop where
  row : H U.cap = some (.lst [.ref U.cell, .int s.at_, .int s.cur, .int s.seed])
  cells : H U.cell = some (.lst (s.cells.map V.int))
  ne : U.cell ≠ U.cap
/-- what stands at the address of a list, of a dict -/
def Sh (ow : Ow) (H : Hp) (d : D) (u : HO) : Prop := (∃ ds xs, d = .list ds ∧ u = .lst xs ∧ RpL U ow H ds xs) ∨ ∃ kvs xs, d = .dict kvs ∧ u = .dK xs ∧ RpD U ow H kvs xs
/-- a list, a dict that a place owns -/
def Own (i : Nat) (ow : Ow) (H : Hp) (d : D) (v : V) : Prop := ∃ a u, v = .ref a ∧ H a = some u ∧ ow a = some i ∧ a ≠ U.cap ∧ Sh U ow H d u
/-- may be read as d -/
def Pk (ow : Ow) (H : Hp) (d : D) (v : V) : Prop := Rp U ow H d v ∨ ∃ i, Own U i ow H d v
/-- a list made anew: at H' it is there, at H it was not -/
def RF (ow : Ow) (H H' : Hp) (d : D) (v : V) : Prop := ∃ a u, v = .ref a ∧ H a = none ∧ H' a = some u ∧ a ≠ U.cap ∧ ∀ i, Sh U (fun b => if b = a then some i else ow b) H' d u
end
section
variable {U : Wd} {ow ow' : Ow} {H H' H'' : Hp}
theorem Ext.refl : Ext U H H := fun _ _ _ h => h
theorem Ext.trans (a : Ext U H H') (b : Ext U H' H'') : Ext U H H'' := fun x u h e => b x u h (a x u h e)
theorem Ext.new {p : Addr} {o : HO} (h : H p = none) : Ext U H (upd H p o) := fun a u _ e => by rw [upd_ne (ne_of_none e h)]; exact e
theorem Ext.keep (h : Ext U H H') : Keep U ow ow H H' := fun a u hc ho e => ⟨h a u hc e, ho⟩
theorem Nd.mono {a : Addr} {o : HO} (h : Nd U ow H a o) (k : Keep U ow ow' H H') : Nd U ow' H' a o := by
  obtain ⟨r, ho, hc⟩ := h
  obtain ⟨e, ho'⟩ := k a _ hc ho r
  exact ⟨e, ho', hc⟩
mutual
theorem Rp.mono (k : Keep U ow ow' H H') : ∀ (d : D) (v : V), Rp U ow H d v → Rp U ow' H' d v
  | .none, _, h => by unfold Rp at h ⊢; exact h
  | .bool _, _, h => by unfold Rp at h ⊢; exact h
  | .int _, _, h => by unfold Rp at h ⊢; exact h
  | .str _, _, h => by unfold Rp at h ⊢; exact h
  | .list ds, _, h => by
    unfold Rp at h ⊢
    obtain ⟨a, xs, e, n, r⟩ := h
    exact ⟨a, xs, e, n.mono k, RpL.mono k ds xs r⟩
  | .tuple ds, _, h => by
    unfold Rp at h ⊢
    obtain ⟨a, xs, e, n, r⟩ := h
    exact ⟨a, xs, e, n.imp (fun n => n.mono k) id, RpL.mono k ds xs r⟩
  | .dict kvs, _, h => by
    unfold Rp at h ⊢
    rcases h with h | ⟨a, xs, e, n, r⟩
    · exact .inl h
    · exact .inr ⟨a, xs, e, n.imp (fun n => n.mono k) id, RpD.mono k kvs xs r⟩
theorem RpD.mono (k : Keep U ow ow' H H') : ∀ (ds : List (D × D)) (xs : List (Key × V)), RpD U ow H ds xs → RpD U ow' H' ds xs
  | [], _, h => by unfold RpD at h ⊢; exact h
  | p :: ds, _, h => by
    unfold RpD at h ⊢
    obtain ⟨kk, x, ys, e, hk, r, rs⟩ := h
    exact ⟨kk, x, ys, e, hk, Rp.mono k p.2 x r, RpD.mono k ds ys rs⟩
theorem RpL.mono (k : Keep U ow ow' H H') : ∀ (ds : List D) (xs : List V), RpL U ow H ds xs → RpL U ow' H' ds xs
  | [], _, h => by unfold RpL at h ⊢; exact h
  | d :: ds, _, h => by
    unfold RpL at h ⊢
    obtain ⟨x, ys, e, r, rs⟩ := h
    exact ⟨x, ys, e, Rp.mono k d x r, RpL.mono k ds ys rs⟩
end
theorem Rp.ext {d : D} {v : V} (h : Rp U ow H d v) (e : Ext U H H') : Rp U ow H' d v := Rp.mono e.keep d v h
theorem RpL.ext {ds : List D} {xs : List V} (h : RpL U ow H ds xs) (e : Ext U H H') : RpL U ow H' ds xs := RpL.mono e.keep ds xs h
theorem Sh.mono {d : D} {u : HO} (k : Keep U ow ow' H H') (h : Sh U ow H d u) : Sh U ow' H' d u := by
  rcases h with ⟨ds, xs, e1, e2, r⟩ | ⟨ds, xs, e1, e2, r⟩
  · exact .inl ⟨ds, xs, e1, e2, RpL.mono k ds xs r⟩
  · exact .inr ⟨ds, xs, e1, e2, RpD.mono k ds xs r⟩
theorem Sh.ext {d : D} {u : HO} (h : Sh U ow H d u) (e : Ext U H H') : Sh U ow H' d u := Sh.mono e.keep h
theorem Sh.notTup {d : D} {u : HO} (h : Sh U ow H d u) : ∀ xs, u ≠ .tup xs := by
  rcases h with ⟨ds, xs, e1, e2, r⟩ | ⟨ds, xs, e1, e2, r⟩ <;> subst e2 <;> exact fun _ z => nomatch z
theorem Sh.list {ds : List D} {u : HO} (h : Sh U ow H (.list ds) u) : ∃ xs, u = .lst xs ∧ RpL U ow H ds xs := by
  rcases h with ⟨ds, xs, e1, e2, r⟩ | ⟨ds, xs, e1, e2, r⟩
  · cases e1; exact ⟨xs, e2, r⟩
  · cases e1
theorem Sh.dict {ds : List (D × D)} {u : HO} (h : Sh U ow H (.dict ds) u) : ∃ xs, u = .dK xs ∧ RpD U ow H ds xs := by
  rcases h with ⟨ds, xs, e1, e2, r⟩ | ⟨ds, xs, e1, e2, r⟩
  · cases e1
  · cases e1; exact ⟨xs, e2, r⟩
theorem Own.ext {i : Nat} {d : D} {v : V} (h : Own U i ow H d v) (e : Ext U H H') : Own U i ow H' d v := by
  obtain ⟨a, u, e2, h1, h2, h3, r⟩ := h
  exact ⟨a, u, e2, e a _ h3 h1, h2, h3, r.ext e⟩
/-- no owner: neither list nor dict -/
def soft : D → Bool
  | .list _ => true
  | .dict _ => true
  | _ => false
theorem Own.soft {i : Nat} {d : D} {v : V} (h : Own U i ow H d v) : soft d = true := by
  obtain ⟨a, u, e2, h1, h2, h3, r⟩ := h
  rcases r with ⟨ds, xs, e1, e2, r⟩ | ⟨ds, xs, e1, e2, r⟩ <;> subst e1 <;> rfl
theorem Pk.ext {d : D} {v : V} (h : Pk U ow H d v) (e : Ext U H H') : Pk U ow H' d v := h.imp (fun h => h.ext e) fun ⟨i, h⟩ => ⟨i, h.ext e⟩
theorem RpL.length : ∀ {ds : List D} {xs : List V}, RpL U ow H ds xs → ds.length = xs.length
  | [], _, h => by unfold RpL at h; rw [h]; rfl
  | d :: ds, _, h => by
    unfold RpL at h
    obtain ⟨x, ys, e, r, rs⟩ := h
    rw [e, List.length_cons, List.length_cons, RpL.length rs]
theorem RpL.get : ∀ {ds : List D} {xs : List V} {i : Nat} {d : D}, RpL U ow H ds xs → ds[i]? = some d → ∃ x, xs[i]? = some x ∧ Rp U ow H d x
  | [], _, i, d, _, e => by simp at e
  | d' :: ds, _, 0, d, h, e => by
    unfold RpL at h
    obtain ⟨x, ys, e', r, rs⟩ := h
    subst e'
    simp at e; subst e
    exact ⟨x, rfl, r⟩
  | d' :: ds, _, i + 1, d, h, e => by
    unfold RpL at h
    obtain ⟨x, ys, e', r, rs⟩ := h
    subst e'
    simp at e
    obtain ⟨y, h1, h2⟩ := RpL.get rs e
    exact ⟨y, by simpa using h1, h2⟩
theorem RpL.nil : RpL U ow H [] [] := by unfold RpL; rfl
theorem RpL.cons {d : D} {ds : List D} {x : V} {xs : List V} (h : Rp U ow H d x) (r : RpL U ow H ds xs) : RpL U ow H (d :: ds) (x :: xs) := by unfold RpL; exact ⟨x, xs, rfl, h, r⟩
theorem RpL.of_cons {d : D} {ds : List D} {x : V} {xs : List V} (h : RpL U ow H (d :: ds) (x :: xs)) : Rp U ow H d x ∧ RpL U ow H ds xs := by
  unfold RpL at h
  obtain ⟨y, ys, e, r, rs⟩ := h
  cases e
  exact ⟨r, rs⟩
theorem RpL.append : ∀ {ds es : List D} {xs ys : List V}, RpL U ow H ds xs → RpL U ow H es ys → RpL U ow H (ds ++ es) (xs ++ ys)
  | [], es, xs, ys, h, r => by unfold RpL at h; subst h; exact r
  | d :: ds, es, xs, ys, h, r => by
    unfold RpL at h
    obtain ⟨x, zs, e, h1, h2⟩ := h
    subst e
    exact RpL.cons h1 (RpL.append h2 r)
theorem RpL.take : ∀ {ds : List D} {xs : List V} (n : Nat), RpL U ow H ds xs → RpL U ow H (ds.take n) (xs.take n)
  | _, _, 0, _ => RpL.nil
  | [], _, n + 1, h => by unfold RpL at h; subst h; exact RpL.nil
  | d :: ds, _, n + 1, h => by
    unfold RpL at h
    obtain ⟨x, zs, e, h1, h2⟩ := h
    subst e
    exact RpL.cons h1 (RpL.take n h2)
theorem RpL.drop : ∀ {ds : List D} {xs : List V} (n : Nat), RpL U ow H ds xs → RpL U ow H (ds.drop n) (xs.drop n)
  | _, _, 0, h => h
  | [], _, n + 1, h => by unfold RpL at h; subst h; exact RpL.nil
  | d :: ds, _, n + 1, h => by
    unfold RpL at h
    obtain ⟨x, zs, e, h1, h2⟩ := h
    subst e
    exact RpL.drop n h2
theorem RpL.set : ∀ {ds : List D} {xs : List V} {d : D} {x : V} (n : Nat), RpL U ow H ds xs → Rp U ow H d x → RpL U ow H (ds.set n d) (xs.set n x)
  | [], _, d, x, n, h, _ => by unfold RpL at h; subst h; exact RpL.nil
  | _ :: ds, _, d, x, 0, h, r => by
    unfold RpL at h
    obtain ⟨y, zs, e, h1, h2⟩ := h
    subst e
    exact RpL.cons r h2
  | _ :: ds, _, d, x, n + 1, h, r => by
    unfold RpL at h
    obtain ⟨y, zs, e, h1, h2⟩ := h
    subst e
    exact RpL.cons h1 (RpL.set n h2 r)
theorem RpL.eraseIdx : ∀ {ds : List D} {xs : List V} (n : Nat), RpL U ow H ds xs → RpL U ow H (ds.eraseIdx n) (xs.eraseIdx n)
  | [], _, n, h => by unfold RpL at h; subst h; exact RpL.nil
  | _ :: ds, _, 0, h => by
    unfold RpL at h
    obtain ⟨y, zs, e, h1, h2⟩ := h
    subst e
    exact h2
  | _ :: ds, _, n + 1, h => by
    unfold RpL at h
    obtain ⟨y, zs, e, h1, h2⟩ := h
    subst e
    exact RpL.cons h1 (RpL.eraseIdx n h2)
theorem RpL.dropLast {ds : List D} {xs : List V} (h : RpL U ow H ds xs) : RpL U ow H ds.dropLast xs.dropLast := by
  rw [List.dropLast_eq_take, List.dropLast_eq_take, h.length]
  exact h.take _
theorem RpL.rep {ds : List D} {xs : List V} (h : RpL U ow H ds xs) : ∀ n : Nat, RpL U ow H (List.replicate n ds).flatten (List.replicate n xs).flatten
  | 0 => RpL.nil
  | n + 1 => by
    rw [List.replicate_succ, List.replicate_succ, List.flatten_cons, List.flatten_cons]
    exact h.append (RpL.rep h n)
theorem KT.seq {a : Addr} {xs : List V} (h : KT U a xs) : SqT U.K H a xs := .inr h
/-! pairs -/
theorem RpD.ext {ds : List (D × D)} {xs : List (Key × V)} (h : RpD U ow H ds xs) (e : Ext U H H') : RpD U ow H' ds xs := RpD.mono e.keep ds xs h
theorem RpD.length : ∀ {ds : List (D × D)} {xs : List (Key × V)}, RpD U ow H ds xs → ds.length = xs.length
  | [], _, h => by unfold RpD at h; rw [h]; rfl
  | p :: ds, _, h => by
    unfold RpD at h
    obtain ⟨kk, x, ys, e, _, r, rs⟩ := h
    rw [e, List.length_cons, List.length_cons, RpD.length rs]
theorem RpD.hit : ∀ {ds : List (D × D)} {xs : List (Key × V)} {k : Key} {d : D}, RpD U ow H ds xs → dAt k ds = some d → ∃ x, valV xs k = some x ∧ Rp U ow H d x
  | [], _, _, _, _, e => by cases e
  | p :: ds, _, k, d, h, e => by
    unfold RpD at h
    obtain ⟨kk, x, ys, e', hk, r, rs⟩ := h
    subst e'
    unfold dAt at e
    rw [hk] at e
    by_cases hkk : kk = k
    · rw [if_pos (by rw [hkk])] at e
      cases e
      exact ⟨x, valV_pos hkk, r⟩
    · rw [if_neg (fun z => hkk (Option.some.inj z))] at e
      obtain ⟨y, h1, h2⟩ := RpD.hit rs e
      exact ⟨y, by rw [valV_neg hkk]; exact h1, h2⟩
theorem RpD.miss : ∀ {ds : List (D × D)} {xs : List (Key × V)} {k : Key}, RpD U ow H ds xs → dAt k ds = none → valV xs k = none
  | [], _, _, h, _ => by unfold RpD at h; subst h; rfl
  | p :: ds, _, k, h, e => by
    unfold RpD at h
    obtain ⟨kk, x, ys, e', hk, r, rs⟩ := h
    subst e'
    unfold dAt at e
    rw [hk] at e
    by_cases hkk : kk = k
    · rw [if_pos (by rw [hkk])] at e
      cases e
    · rw [if_neg (fun z => hkk (Option.some.inj z))] at e
      rw [valV_neg hkk]; exact RpD.miss rs e
theorem RpD.isSome {ds : List (D × D)} {xs : List (Key × V)} (k : Key) (h : RpD U ow H ds xs) : (dAt k ds).isSome = (valV xs k).isSome := by
  cases e : dAt k ds with
  | none => rw [h.miss e]; rfl
  | some d => obtain ⟨x, h1, _⟩ := h.hit e; rw [h1]; rfl
theorem RpD.ok : ∀ {ds : List (D × D)} {xs : List (Key × V)}, RpD U ow H ds xs → dOk ds = true
  | [], _, _ => rfl
  | p :: ds, _, h => by
    unfold RpD at h
    obtain ⟨kk, x, ys, e', hk, r, rs⟩ := h
    have := RpD.ok rs
    unfold dOk at this ⊢
    rw [List.all_cons, hk, this]
    rfl
theorem RpD.nil : RpD U ow H [] [] := by unfold RpD; rfl
theorem RpD.cons {p : D × D} {ds : List (D × D)} {kk : Key} {x : V} {xs : List (Key × V)} (hk : keyD p.1 = some kk) (h : Rp U ow H p.2 x) (r : RpD U ow H ds xs) : RpD U ow H (p :: ds) ((kk, x) :: xs) := by unfold RpD; exact ⟨kk, x, xs, rfl, hk, h, r⟩
theorem RpD.append : ∀ {ds es : List (D × D)} {xs ys : List (Key × V)}, RpD U ow H ds xs → RpD U ow H es ys → RpD U ow H (ds ++ es) (xs ++ ys)
  | [], es, xs, ys, h, r => by unfold RpD at h; subst h; exact r
  | d :: ds, es, xs, ys, h, r => by
    unfold RpD at h
    obtain ⟨kk, x, zs, e, hk, h1, h2⟩ := h
    subst e
    exact RpD.cons hk h1 (RpD.append h2 r)
theorem RpD.any : ∀ {ds : List (D × D)} {xs : List (Key × V)} {k : D} {kk : Key}, RpD U ow H ds xs → keyD k = some kk → (ds.any fun p => decide (keyD p.1 = keyD k)) = xs.any fun q => decide (q.1 = kk)
  | [], _, _, _, h, _ => by unfold RpD at h; subst h; rfl
  | p :: ds, _, k, kk, h, e => by
    unfold RpD at h
    obtain ⟨k1, x, ys, e', hk, r, rs⟩ := h
    subst e'
    rw [List.any_cons, List.any_cons, RpD.any rs e, hk, e]
    congr 1
    exact decide_eq_decide.mpr ⟨fun z => Option.some.inj z, fun z => congrArg _ z⟩
theorem RpD.repl : ∀ {ds : List (D × D)} {xs : List (Key × V)} {k d : D} {kk : Key} {v : V}, RpD U ow H ds xs → keyD k = some kk → Rp U ow H d v →
    RpD U ow H (ds.map fun p => if keyD p.1 = keyD k then (p.1, d) else p) (xs.map fun q => if q.1 = kk then (q.1, v) else q)
  | [], _, _, _, _, _, h, _, _ => by unfold RpD at h; subst h; exact RpD.nil
  | p :: ds, _, k, d, kk, v, h, e, rv => by
    unfold RpD at h
    obtain ⟨k1, x, ys, e', hk, r, rs⟩ := h
    subst e'
    rw [List.map_cons, List.map_cons]
    by_cases hkk : k1 = kk
    · rw [if_pos (by rw [hk, e, hkk]), if_pos hkk]
      exact RpD.cons hk rv (RpD.repl rs e rv)
    · rw [if_neg (by rw [hk, e]; exact fun z => hkk (Option.some.inj z)), if_neg hkk]
      exact RpD.cons hk r (RpD.repl rs e rv)
theorem RpD.put {ds : List (D × D)} {xs : List (Key × V)} {k d : D} {kk : Key} {v : V} (h : RpD U ow H ds xs) (e : keyD k = some kk) (rv : Rp U ow H d v) : RpD U ow H (dPut ds k d) (putK xs kk v) := by
  unfold dPut putK
  rw [h.any e]
  split
  · exact h.repl e rv
  · exact h.append (RpD.cons (p := (k, d)) e rv RpD.nil)
/-- what is to be read of a dict -/
theorem Pk.dict {kvs : List (D × D)} {v : V} (h : Pk U ow H (.dict kvs) v) (hn : dOk kvs = true) : ∃ a xs, v = .ref a ∧ (H a = some (.dK xs) ∨ KDs U a xs) ∧ RpD U ow H kvs xs := by
  rcases h with h | ⟨i, a, u, e2, h1, h2, h3, r⟩
  · unfold Rp at h
    rcases h with ⟨e, _⟩ | ⟨a, xs, e, n, r⟩
    · subst e; cases hn
    · exact ⟨a, xs, e, n.imp (fun n => n.1) id, r⟩
  · obtain ⟨xs, eu, r2⟩ := r.dict
    subst eu
    exact ⟨a, xs, e2, .inl h1, r2⟩
/-- what is to be read of a list -/
theorem Pk.list {ds : List D} {v : V} (h : Pk U ow H (.list ds) v) : ∃ a xs, v = .ref a ∧ H a = some (.lst xs) ∧ RpL U ow H ds xs := by
  rcases h with h | ⟨i, a, u, e2, h1, h2, h3, r⟩
  · unfold Rp at h
    obtain ⟨a, xs, e, n, r⟩ := h
    exact ⟨a, xs, e, n.1, r⟩
  · obtain ⟨xs, eu, r2⟩ := r.list
    subst eu
    exact ⟨a, xs, e2, h1, r2⟩
theorem Pk.tuple {ds : List D} {v : V} (h : Pk U ow H (.tuple ds) v) : ∃ a xs, v = .ref a ∧ SqT U.K H a xs ∧ RpL U ow H ds xs := by
  rcases h with h | ⟨i, h⟩
  · unfold Rp at h
    obtain ⟨a, xs, e, n, r⟩ := h
    exact ⟨a, xs, e, n.elim (fun n => .inl (.inl n.1)) (fun n => .inr n), r⟩
  · cases h.soft
theorem Pk.int {i : Int} {v : V} (h : Pk U ow H (.int i) v) : v = .int i := by
  rcases h with h | ⟨_, h⟩
  · unfold Rp at h; exact h
  · cases h.soft
theorem Pk.bool {i : Bool} {v : V} (h : Pk U ow H (.bool i) v) : v = .bl i := by
  rcases h with h | ⟨_, h⟩
  · unfold Rp at h; exact h
  · cases h.soft
theorem Pk.str {i : Str} {v : V} (h : Pk U ow H (.str i) v) : v = .str i := by
  rcases h with h | ⟨_, h⟩
  · unfold Rp at h; exact h
  · cases h.soft
theorem Pk.none {v : V} (h : Pk U ow H .none v) : v = .non := by
  rcases h with h | ⟨_, h⟩
  · unfold Rp at h; exact h
  · cases h.soft
theorem Rp.none : Rp U ow H .none .non := by unfold Rp; rfl
theorem Rp.bool {b : Bool} : Rp U ow H (.bool b) (.bl b) := by unfold Rp; rfl
theorem Rp.int {b : Int} : Rp U ow H (.int b) (.int b) := by unfold Rp; rfl
theorem Rp.str {b : Str} : Rp U ow H (.str b) (.str b) := by unfold Rp; rfl
/-- a new list, a new tuple -/
theorem Rp.newL {ds : List D} {xs : List V} {p : Addr} (h : RpL U ow H ds xs) (np : H p = Option.none) (hc : p ≠ U.cap) (ho : ow p = Option.none) : Rp U ow (upd H p (.lst xs)) (.list ds) (.ref p) := by
  unfold Rp
  exact ⟨p, xs, rfl, ⟨upd_same, ho, hc⟩, h.ext (Ext.new np)⟩
theorem Rp.newT {ds : List D} {xs : List V} {p : Addr} (h : RpL U ow H ds xs) (np : H p = Option.none) (hc : p ≠ U.cap) (ho : ow p = Option.none) : Rp U ow (upd H p (.tup xs)) (.tuple ds) (.ref p) := by
  unfold Rp
  exact ⟨p, xs, rfl, .inl ⟨upd_same, ho, hc⟩, h.ext (Ext.new np)⟩
/-- the new address may be owned -/
theorem RpL.own {ds : List D} {xs : List V} {p : Addr} (h : RpL U ow H ds xs) (np : H p = none) (i : Nat) {o : HO} : RpL U (fun b => if b = p then some i else ow b) (upd H p o) ds xs :=
  RpL.mono (fun a u _ ho e => by
    have hne := ne_of_none e np
    exact ⟨by rw [upd_ne hne]; exact e, by show (if a = p then some i else ow a) = _; rw [if_neg hne]; exact ho⟩) ds xs h
theorem RpD.own {ds : List (D × D)} {xs : List (Key × V)} {p : Addr} (h : RpD U ow H ds xs) (np : H p = none) (i : Nat) {o : HO} : RpD U (fun b => if b = p then some i else ow b) (upd H p o) ds xs :=
  RpD.mono (fun a u _ ho e => by
    have hne := ne_of_none e np
    exact ⟨by rw [upd_ne hne]; exact e, by show (if a = p then some i else ow a) = _; rw [if_neg hne]; exact ho⟩) ds xs h
theorem RF.new {ds : List D} {xs : List V} {p : Addr} {H0 : Hp} (h : RpL U ow H ds xs) (h0 : H0 p = none) (np : H p = none) (hc : p ≠ U.cap) : RF U ow H0 (upd H p (.lst xs)) (.list ds) (.ref p) :=
  ⟨p, _, rfl, h0, upd_same, hc, fun i => .inl ⟨ds, xs, rfl, rfl, h.own np i⟩⟩
theorem Ext.none {H H' : Hp} {p : Addr} (h : Ext U H H') (hc : p ≠ U.cap) (np : H' p = none) : H p = none := by
  cases e : H p with
  | none => rfl
  | some u => rw [h p u hc e] at np; cases np
mutual
theorem Rp.dp : ∀ (d : D) (v : V), PyData.canLay0 d = true → Rp U ow H d v → Dp U.K H v d
  | .none, _, _, h => by unfold Rp at h; subst h; exact .non
  | .bool _, _, _, h => by unfold Rp at h; subst h; exact .bl _
  | .int _, _, _, h => by unfold Rp at h; subst h; exact .int _
  | .str _, _, _, h => by unfold Rp at h; subst h; exact .str _
  | .list ds, _, hs, h => by
    unfold Rp at h
    obtain ⟨a, xs, e, n, r⟩ := h
    subst e
    exact .lst (.inl (.inl n.1)) (RpL.dp ds xs (by simpa [PyData.canLay0] using hs) r)
  | .tuple ds, _, hs, h => by
    unfold Rp at h
    obtain ⟨a, xs, e, n, r⟩ := h
    subst e
    exact .tup (n.elim (fun n => .inl (.inl n.1)) (fun n => .inr n)) (RpL.dp ds xs (by simpa [PyData.canLay0] using hs) r)
  | .dict _, _, hs, h => by simp [PyData.canLay0] at hs
theorem RpL.dp : ∀ (ds : List D) (xs : List V), PyData.canLayAll0 ds = true → RpL U ow H ds xs → DpAll U.K H xs ds
  | [], _, _, h => by unfold RpL at h; subst h; exact .nil
  | d :: ds, _, hs, h => by
    unfold RpL at h
    obtain ⟨x, ys, e, r, rs⟩ := h
    subst e
    have hs' : PyData.canLay0 d = true ∧ PyData.canLayAll0 ds = true := by simpa [PyData.canLayAll0] using hs
    exact .cons (Rp.dp d x hs'.1 r) (RpL.dp ds ys hs'.2 rs)
end
theorem Pk.dp {d : D} {v : V} (h : Pk U ow H d v) (hs : PyData.canLay0 d = true) : Dp U.K H v d := by
  cases d with
  | list ds =>
    obtain ⟨a, xs, e, n, r⟩ := h.list
    subst e
    exact .lst (.inl (.inl n)) (RpL.dp ds xs (by simpa [PyData.canLay0] using hs) r)
  | _ =>
    rcases h with h | ⟨_, h⟩
    · exact Rp.dp _ _ hs h
    · first
      | (simp [PyData.canLay0] at hs; done)
      | cases h.soft
end
end Py

set_option Elab.async false
set_option linter.all false
set_option maxRecDepth 100000
set_option maxHeartbeats 1000000
namespace Py
open PySem PySem.Spec PyProof.Rows L2

/-- the state: what stands in the slots, what is owned, what stood at the entry -/
structure SR (U : Wd) (H0 : Hp) (ow0 ow : Ow) (σ : L2.St) (H : Hp) (σd : St) (s : DS) : Prop where
  trk : ∀ a, ow a ≠ none → ∃ u, H a = some u ∧ ∀ xs, u ≠ .tup xs
  capo : ow U.cap = none
  cello : ow U.cell = none
  own0 : ∀ a i, ow a = some (i + 1) → H0 a = none
  agr : ∀ a u, H0 a = some u → ow a = ow0 a
  base : Ext U H0 H
  slots : ∀ (i : Nat) (d : D) (o : Bool), σd[i]? = some (some (d, o)) → ∃ v, σ[i]? = some (some v) ∧ (o = false → Rp U ow H d v) ∧ (o = true → Own U (i + 1) ow H d v)
  cap : Cap U H s
  len : σd.length = σ.length
section
variable {U : Wd} {H0 H H1 H2 : Hp} {ow0 ow : Ow} {σ : L2.St} {σd : St} {s s1 : DS}
theorem SR.ext (S : SR U H0 ow0 ow σ H σd s) (e : Ext U H H1) (c : Cap U H1 s1) : SR U H0 ow0 ow σ H1 σd s1 := by
  refine ⟨fun a h => ?_, S.capo, S.cello, S.own0, S.agr, S.base.trans e, fun i d o h => ?_, c, S.len⟩
  · obtain ⟨u, hu, ht⟩ := S.trk a h
    exact ⟨u, e a u (fun z => by rw [z] at h; exact h S.capo) hu, ht⟩
  · obtain ⟨v, h1, h2, h3⟩ := S.slots i d o h
    exact ⟨v, h1, fun z => (h2 z).ext e, fun z => (h3 z).ext e⟩
theorem SR.nocap (S : SR U H0 ow0 ow σ H σd s) {p : Addr} (np : H p = none) : p ≠ U.cap := fun z => by
  rw [z, S.cap.row] at np; cases np
theorem SR.noow (S : SR U H0 ow0 ow σ H σd s) {p : Addr} (np : H p = none) : ow p = none := by
  cases e : ow p with
  | none => rfl
  | some i =>
    obtain ⟨u, hu, _⟩ := S.trk p (by rw [e]; intro z; cases z)
    rw [np] at hu; cases hu
theorem Cap.new {p : Addr} {o : HO} (c : Cap U H s) (np : H p = none) : Cap U (upd H p o) s :=
  ⟨by rw [upd_ne (ne_of_none c.row np)]; exact c.row, by rw [upd_ne (ne_of_none c.cells np)]; exact c.cells, c.ne⟩
end

/-- an exception as the heap has it -/
def XFl (H : Hp) (fs : List (Str × Py.D)) (od : Option Addr) : Prop := (fs = [] ∧ od = none) ∨ ∃ m a, fs = [(("reason" : Str), PyData.str m)] ∧ od = some a ∧ H a = some (.xd [(("reason" : Str), V.str m)])
def XRep (U : Wd) (H : Hp) (x : Exc) (cls : Value) (od : Option Addr) : Prop := U.mg x.cls = some cls ∧ XFl H x.flds od
def PostE (U : Wd) (ow : Ow) (fr : D → Bool) (H : Hp) (Q : VK) (d : D) (s' : DS) : Prop :=
  ∀ v H', Ext U H H' → Cap U H' s' → Rp U ow H' d v → (fr d = true → RF U ow H H' d v) → Q v H'
def PostP (U : Wd) (ow : Ow) (H : Hp) (Q : VK) (d : D) (s' : DS) : Prop :=
  ∀ v H', Ext U H H' → Cap U H' s' → Pk U ow H' d v → Q v H'
def PostX (U : Wd) (W : WX) (σ : L2.St) (H : Hp) (x : Exc) (s' : DS) : Prop :=
  ∀ cls od H', Ext U H H' → Cap U H' s' → XRep U H' x cls od → W cls od σ H'
/-- the reading of an expression by what the interpreter says -/
def tOf (U : Wd) (W : WX) (f : St → M D) (fr : D → Bool) : TE := fun σ H Q => ∃ H0 ow0 ow σd s, SR U H0 ow0 ow σ H σd s ∧ Wp (f σd) s (PostE U ow fr H Q) (PostX U W σ H)
def tOfP (U : Wd) (W : WX) (f : St → M D) : TE := fun σ H Q => ∃ H0 ow0 ow σd s, SR U H0 ow0 ow σ H σd s ∧ Wp (f σd) s (PostP U ow H Q) (PostX U W σ H)
def tOfT (U : Wd) (W : WX) (f : St → M Bool) : TT := fun σ H Q => ∃ H0 ow0 ow σd s, SR U H0 ow0 ow σ H σd s ∧ Wp (f σd) s (fun b s' => ∀ H', Ext U H H' → Cap U H' s' → Q b H') (PostX U W σ H)
def tOfA (U : Wd) (W : WX) (f : St → M (List D)) : TA := fun σ H Q => ∃ H0 ow0 ow σd s, SR U H0 ow0 ow σ H σd s ∧ Wp (f σd) s (fun ds s' => ∀ vs H', Ext U H H' → Cap U H' s' → RpL U ow H' ds vs → Q vs H') (PostX U W σ H)
/-- peeked data, one by one -/
def PkL (U : Wd) (ow : Ow) (H : Hp) : List D → List V → Prop
  | [], xs => xs = []
  | d :: ds, xs => ∃ x ys, xs = x :: ys ∧ Pk U ow H d x ∧ PkL U ow H ds ys
def tOfPA (U : Wd) (W : WX) (f : St → M (List D)) : TA := fun σ H Q => ∃ H0 ow0 ow σd s, SR U H0 ow0 ow σ H σd s ∧ Wp (f σd) s (fun ds s' => ∀ vs H', Ext U H H' → Cap U H' s' → PkL U ow H' ds vs → Q vs H') (PostX U W σ H)

theorem PE.imp {X : Cx} {e : Expr} {t t' : TE} (h : PE X e t) (i : ∀ σ H Q, t' σ H Q → t σ H Q) : PE X e t' := ⟨fun pins s σ H Q I q => h.run pins s σ H Q I (i σ H Q q)⟩
theorem PT.imp {X : Cx} {e : Expr} {t t' : TT} (h : PT X e t) (i : ∀ σ H Q, t' σ H Q → t σ H Q) : PT X e t' := ⟨fun pins s σ H Q I q => h.run pins s σ H Q I (i σ H Q q)⟩
theorem PW.imp {X : Cx} {e : Expr} {t t' : TT} (h : PW X e t) (i : ∀ σ H Q, t' σ H Q → t σ H Q) : PW X e t' := ⟨fun wh pins s σ H Q I q => h.run wh pins s σ H Q I (i σ H Q q)⟩
theorem PA.imp {X : Cx} {e : List Expr} {t t' : TA} (h : PA X e t) (i : ∀ σ H Q, t' σ H Q → t σ H Q) : PA X e t' := ⟨fun pos pins s σ H Q I q => h.run pos pins s σ H Q I (i σ H Q q)⟩
theorem PS.imp {X : Cx} {e : Stmt} {t t' : TS} (h : PS X e t) (i : ∀ D σ H, t' D σ H → t D σ H) : PS X e t' := ⟨fun pins s σ H D I q => h.run pins s σ H D I (i D σ H q)⟩
theorem PSs.imp {X : Cx} {e : List Stmt} {t t' : TS} (h : PSs X e t) (i : ∀ D σ H, t' D σ H → t D σ H) : PSs X e t' := ⟨fun pins s σ H D I q => h.run pins s σ H D I (i D σ H q)⟩
/-- nothing is promised where it fails -/
theorem PE.fails {X : Cx} {e : Expr} {U : Wd} {W : WX} {f : St → M D} {fr : D → Bool} (h : ∀ σ, f σ = fail) : PE X e (tOf U W f fr) := ⟨fun pins s σ H Q I q => by
  obtain ⟨H0, ow0, ow, σd, s, S, w⟩ := q

  rw [h] at w
  exact w.of_fail.elim⟩

/-- where one stands -/
structure Good (U : Wd) (k : Nat) (Γ : Cxt) (X : Cx) (W : WX) : Prop where
  P : X.prog = U.P
  w : X.w = U.w
  K : X.K = U.K
  mg : X.mg = U.mg
  base : X.base = U.base
  N : X.N = Γ.N
  sc : X.env.scope = Γ.sc
  nd : Γ.N.Nodup
  calm : X.calm = true
  room : Room k X.A
  tk : Takes X W
  stl : ∀ x, Γ.st.names.lookup x = some .local → Γ.sc.names.lookup x = some .local
  stc : ∀ x, Γ.st.names.lookup x = some .cell → Γ.sc.names.lookup x = some .cell ∧ X.fn x = true

section
variable {U : Wd} {k : Nat} {Γ : Cxt} {X : Cx} {W : WX} {G : Gs}
/-! ### peeking -/
theorem tOf.peek {f : St → M D} {fr : D → Bool} {σ : L2.St} {H : Hp} {Q : VK} (h : tOfP U W f σ H Q) : tOf U W f fr σ H Q := by
  obtain ⟨H0, ow0, ow, σd, s, S, w⟩ := h

  exact ⟨H0, ow0, ow, σd, s, S, w.mono (fun d s' p v H' e c r _ => p v H' e c (.inl r)) fun _ _ h => h⟩
theorem kindL_vis {sc : Scope} {x : Str} (h : kindL sc x = true) : Vis sc x := by
  unfold kindL at h
  split at h
  · exact .inl (by assumption)
  · exact .inr (.inl (by assumption))
  · exact .inr (.inr (by assumption))
  · cases h
theorem kindG_gl (g : Good U k Γ X W) {x : Str} (h : kindG Γ.sc x = true) : Gl X x := by
  unfold kindG at h
  split at h
  · rename_i e
    show X.env.kindOf x = _
    unfold Env.kindOf
    rw [g.sc]
    exact e
  · cases h
theorem idxOf_get {N : List Str} {x : Str} {i : Nat} (h : N.idxOf? x = some i) : N[i]? = some x := by
  rw [List.idxOf?_eq_some_iff] at h
  obtain ⟨h1, h2, _⟩ := h
  rw [List.getElem?_eq_getElem h1]
  exact congrArg some (by simpa using h2)
theorem slot_get {x : Str} {i : Nat} (h : slot Γ x = some i) : kindL Γ.sc x = true ∧ Γ.N[i]? = some x := by
  unfold slot at h
  split at h
  · exact ⟨by assumption, idxOf_get h⟩
  · cases h
theorem okName_d {x : Str} (h : okName x = true) : (x == ("__debug__" : Str)) = false ∧ (x == ("__classdict__" : Str)) = false ∧ x ≠ "__name__" := by
  unfold okName at h
  simp only [Bool.and_eq_true, Bool.not_eq_true'] at h
  exact ⟨h.1.1, h.1.2, fun z => by rw [z] at h; simp at h⟩
end
/-- the module's constants, defs, exceptions -/
structure GlOk (U : Wd) (k : Nat) (G : Gs) : Prop where
  cst : ∀ x d, G.cst x = some d → ∃ u v, U.mg x = some u ∧ RelV v u ∧ ∀ ow H, Rp U ow H d v
  bare : ∀ x, G.bare x = true → U.mg x = none
  exc : ∀ c, G.exc c = true → ∃ C, U.mg c = some (.ref C) ∧ ((G.ini c = false ∧ ∃ bmB, ∃ B newId initId : String, ExcBaseFacts B newId initId bmB ∧ PySem.W.excIn U.K C bmB newId = true ∧ PySem.W.keepIn U.K (.ref C) = true ∧ (∀ X : Cx, X.K = U.K → Raises X (.ref C))) ∨
      (G.ini c = true ∧ ∃ fI, PySem.RefX.RefTxt U.P U.K C fI)) ∧
    ∀ c', G.exc c' = true → ∀ C', U.mg c' = some C' → PySem.W.exmOne U.K C' (.ref C) = some (decide (c' = c))
  sub : ∀ x F b, G.sub x F = some b → ∃ C cv, ∃ v : V, U.mg x = some (.ref C) ∧ ExcC U.K C ∧ ((U.mg F = some cv) ∨ (U.mg F = none ∧ bootBuiltins F = some cv)) ∧ RelV v cv ∧ (∀ u, RelV v u → u = cv) ∧ PySem.W.kitOne U.K (.ref C) cv = some b
section
variable {U : Wd} {k : Nat} {Γ : Cxt} {X : Cx} {W : WX} {G : Gs}
theorem pe_load (g : Good U k Γ X W) (go : GlOk U k G) {x : Str} {p : Pos} : PE X (.Name x p) (tOfP U W (fun σ => loadE G Γ σ true x)) ∧ ∀ fr : D → Bool, (∀ d, fr d = false) → PE X (.Name x p) (tOf U W (fun σ => loadE G Γ σ false x) fr) := by
  by_cases hok : okName x = true
  case neg =>
    refine ⟨⟨fun pins s σ H Q I q => ?_⟩, fun fr _ => ⟨fun pins s σ H Q I q => ?_⟩⟩ <;>
    · obtain ⟨H0, ow0, ow, σd, s, S, w⟩ := q
      dsimp only at w
      unfold loadE at w
      rw [if_neg hok] at w
      exact w.of_fail.elim
  case pos =>
  obtain ⟨hd, hcd, hn⟩ := okName_d hok
  cases hs : slot Γ x with
  | some i =>
    obtain ⟨hk, hN⟩ := slot_get hs
    have pv := pe_var (X := X) (pos := p) (i := i) (x := x) (by rw [g.N]; exact hN) (by rw [g.sc]; exact kindL_vis hk) hd hcd
    constructor
    · refine PE.imp pv fun σ H Q h => ?_
      obtain ⟨H0, ow0, ow, σd, s, S, w⟩ := h
      dsimp only at w
      unfold loadE at w
      rw [if_pos hok, hs] at w
      simp only at w
      split at w
      · rename_i d o e
        obtain ⟨v, h1, h2, h3⟩ := S.slots i d o e
        refine ⟨v, h1, ?_⟩
        rw [if_neg (by simp)] at w
        refine w.of_pure v H Ext.refl S.cap ?_
        cases o with
        | false => exact .inl (h2 rfl)
        | true => exact .inr ⟨_, h3 rfl⟩
      · exact w.of_fail.elim
    · intro fr hfr
      refine PE.imp pv fun σ H Q h => ?_
      obtain ⟨H0, ow0, ow, σd, s, S, w⟩ := h
      dsimp only at w
      unfold loadE at w
      rw [if_pos hok, hs] at w
      simp only at w
      split at w
      · rename_i d o e
        obtain ⟨v, h1, h2, h3⟩ := S.slots i d o e
        refine ⟨v, h1, ?_⟩
        cases o with
        | true => rw [if_pos (by simp)] at w; exact w.of_fail.elim
        | false =>
          rw [if_neg (by simp)] at w
          exact w.of_pure v H Ext.refl S.cap (h2 rfl) fun z => by rw [hfr] at z; cases z
      · exact w.of_fail.elim
  | none =>
    have key : ∀ (b : Bool) (σd : St) (s : DS) (Q : D → DS → Prop) (E : Exc → DS → Prop), Wp (loadE G Γ σd b x) s Q E → kindG Γ.sc x = true ∧ ∃ d, G.cst x = some d ∧ Q d s := by
      intro b σd s Q E w
      unfold loadE at w
      rw [if_pos hok, hs] at w
      simp only at w
      obtain ⟨hg, w⟩ := w.of_guard
      refine ⟨hg, ?_⟩
      split at w
      · rename_i d e
        exact ⟨d, e, w.of_pure⟩
      · exact w.of_fail.elim
    constructor
    · refine ⟨fun pins s σ H Q I q => ?_⟩
      obtain ⟨H0, ow0, ow, σd, s', S, w⟩ := q
      obtain ⟨hg, d, hc, w⟩ := key _ _ _ _ _ w
      obtain ⟨u, v, hm, rv, rp⟩ := go.cst x d hc
      exact (pe_glob (X := X) (pos := p) (kindG_gl g hg) (by rw [g.mg]; exact hm) rv hd).run pins s σ H Q I (w v H Ext.refl S.cap (.inl (rp ow H)))
    · intro fr hfr
      refine ⟨fun pins s σ H Q I q => ?_⟩
      obtain ⟨H0, ow0, ow, σd, s', S, w⟩ := q
      obtain ⟨hg, d, hc, w⟩ := key _ _ _ _ _ w
      obtain ⟨u, v, hm, rv, rp⟩ := go.cst x d hc
      exact (pe_glob (X := X) (pos := p) (kindG_gl g hg) (by rw [g.mg]; exact hm) rv hd).run pins s σ H Q I (w v H Ext.refl S.cap (rp ow H) fun z => by rw [hfr] at z; cases z)
theorem pe_evP (g : Good U k Γ X W) (go : GlOk U k G) {e : Expr} {f : St → Expr → M D} (h : PE X e (tOf U W (fun σ => f σ e) fun _ => false)) : PE X e (tOfP U W (fun σ => evP G Γ σ (f σ) e)) := by
  cases e with
  | Name x p => exact (pe_load g go).1
  | _ => exact PE.imp h fun σ H Q q => tOf.peek q
end
end Py

set_option Elab.async false
set_option linter.all false
set_option maxRecDepth 100000
set_option maxHeartbeats 1000000
namespace Py
open PySem PySem.Spec PyProof.Rows L2

/-- what a rule by values needs of the heap -/
structure Hk (U : Wd) (ow : Ow) (H : Hp) (s : DS) : Prop where
  trk : ∀ a, ow a ≠ none → ∃ u, H a = some u ∧ ∀ xs, u ≠ .tup xs
  capo : ow U.cap = none
  cap : Cap U H s
section
variable {U : Wd} {ow : Ow} {H : Hp} {s : DS}
theorem SR.hk {H0 : Hp} {ow0 : Ow} {σ : L2.St} {σd : St} (S : SR U H0 ow0 ow σ H σd s) : Hk U ow H s := ⟨S.trk, S.capo, S.cap⟩
theorem Hk.nocap (S : Hk U ow H s) {p : Addr} (np : H p = none) : p ≠ U.cap := fun z => by
  rw [z, S.cap.row] at np; cases np
theorem Hk.noow (S : Hk U ow H s) {p : Addr} (np : H p = none) : ow p = none := by
  cases e : ow p with
  | none => rfl
  | some i =>
    obtain ⟨u, hu, _⟩ := S.trk p (by rw [e]; intro z; cases z)
    rw [np] at hu; cases hu
/-- a new list is handed on -/
theorem Hk.newL (S : Hk U ow H s) {ds : List D} {xs : List V} {Q : VK} (fr : D → Bool) (r : RpL U ow H ds xs) (q : PostE U ow fr H Q (.list ds) s) {p : Addr} (np : H p = none) : Q (.ref p) (upd H p (.lst xs)) :=
  q _ _ (Ext.new np) (S.cap.new np) (Rp.newL r np (S.nocap np) (S.noow np)) fun _ => RF.new r np np (S.nocap np)
theorem Hk.newT (S : Hk U ow H s) {ds : List D} {xs : List V} {Q : VK} (fr : D → Bool) (r : RpL U ow H ds xs) (q : PostE U ow fr H Q (.tuple ds) s) (hf : fr (.tuple ds) = false) {p : Addr} (np : H p = none) : Q (.ref p) (upd H p (.tup xs)) :=
  q _ _ (Ext.new np) (S.cap.new np) (Rp.newT r np (S.nocap np) (S.noow np)) fun z => by rw [hf] at z; cases z
end
def rBin (U : Wd) (op : Operator) : R2 := fun x y H Q => ∃ ow s dx dy, Hk U ow H s ∧ Pk U ow H dx x ∧ Pk U ow H dy y ∧ Wp (binop op dx dy) s (PostE U ow isL H Q) (fun _ _ => True)
section
variable {X : Cx} {U : Wd} {ow : Ow} {H : Hp} {s : DS}
theorem sline_eq : sline = sizeLine := by rw [sizeLine_eq]; rfl
theorem postV {v : V} {d : D} {Q : VK} {fr : D → Bool} (S : Hk U ow H s) (q : PostE U ow fr H Q d s) (r : Rp U ow H d v) (hf : fr d = false) : Q v H :=
  q v H Ext.refl S.cap r fun z => by rw [hf] at z; cases z
theorem or_bin (hK : X.K = U.K) (op : Operator) : OpR X (binaryOp op) (rBin U op) := by
  intro pins s' σ H x y v u Q I rx ry h
  obtain ⟨ow, s, dx, dy, S, px, py, w⟩ := h
  unfold binop at w
  split at w
  · rw [px.int] at rx; rw [py.int] at ry
    exact op_add pins s' σ H _ _ v u Q I rx ry ⟨_, _, rfl, rfl, postV S w.of_pure Rp.int rfl⟩
  · rw [px.int] at rx; rw [py.int] at ry
    exact op_sub pins s' σ H _ _ v u Q I rx ry ⟨_, _, rfl, rfl, postV S w.of_pure Rp.int rfl⟩
  · rw [px.int] at rx; rw [py.int] at ry
    obtain ⟨hc, w⟩ := w.of_guard
    exact op_mulW pins s' σ H _ _ v u Q I rx ry ⟨_, _, rfl, rfl, hc, postV S w.of_pure Rp.int rfl⟩
  · rw [px.int] at rx; rw [py.int] at ry
    rcases w.of_ite with ⟨hc, w⟩ | ⟨_, w⟩
    · exact op_fdivW pins s' σ H _ _ v u Q I rx ry ⟨_, _, rfl, rfl, hc, postV S w.of_pure Rp.int rfl⟩
    · obtain ⟨hc, w⟩ := w.of_guard
      rename_i i j _
      obtain ⟨t, rfl⟩ := rx
      obtain ⟨t', rfl⟩ := ry
      exact floordiv_int (by omega) ⟨.int _, H, I.tok _, ⟨_, rfl⟩, postV S w.of_pure Rp.int rfl⟩ (.inl (PyProof.noPylong_of_log2 hc.2))
  · rw [px.int] at rx; rw [py.int] at ry
    obtain ⟨hc, w⟩ := w.of_guard
    exact op_mod pins s' σ H _ _ v u Q I rx ry ⟨_, _, rfl, rfl, hc, postV S w.of_pure Rp.int rfl⟩
  · rw [px.str] at rx; rw [py.str] at ry
    obtain ⟨hc, w⟩ := w.of_guard
    exact op_add_str pins s' σ H _ _ v u Q I rx ry ⟨_, _, rfl, rfl, by rw [← sline_eq]; exact hc, postV S w.of_pure Rp.str rfl⟩
  · obtain ⟨a, xs, e1, h1, r1⟩ := px.list
    obtain ⟨b, ys, e2, h2, r2⟩ := py.list
    subst e1 e2
    obtain ⟨hc, w⟩ := w.of_guard
    exact op_cat pins s' σ H _ _ v u Q I rx ry ⟨a, b, xs, ys, rfl, rfl, h1, h2, by rw [← sline_eq, ← r1.length, ← r2.length]; exact hc, fun p np => S.newL isL (r1.append r2) w.of_pure np⟩
  · rename_i as bs
    obtain ⟨a, xs, e1, h1, r1⟩ := px.tuple
    obtain ⟨b, ys, e2, h2, r2⟩ := py.tuple
    obtain ⟨hc, w⟩ := w.of_guard
    have w := w.of_pure
    have l1 := r1.length
    have l2 := r2.length
    subst e1 e2
    refine op_catA pins s' σ H _ _ v u Q I rx ry ⟨a, b, xs, ys, rfl, rfl, by rw [hK]; exact h1, by rw [hK]; exact h2, by rw [← sline_eq, ← l1, ← l2]; exact hc, fun z => ?_, fun _ z => ?_, fun _ _ p np => S.newT isL (r1.append r2) w rfl np⟩
    · subst z
      have : as = [] := by cases as with | nil => rfl | cons _ _ => simp at l1
      subst this
      rcases py with py | ⟨_, e⟩
      · exact postV S w (by simpa using py) rfl
      · cases e.soft
    · subst z
      have : bs = [] := by cases bs with | nil => rfl | cons _ _ => simp at l2
      subst this
      rcases px with px | ⟨_, e⟩
      · exact postV S w (by simpa using px) rfl
      · cases e.soft
  · obtain ⟨a, xs, e1, h1, r1⟩ := px.list
    rw [py.int] at ry
    subst e1
    obtain ⟨⟨hc1, hc2, hc3⟩, w⟩ := w.of_guard
    exact op_rep pins s' σ H _ _ v u Q I rx ry ⟨a, _, xs, rfl, rfl, h1, by omega, by omega, by rw [← sline_eq, ← r1.length]; exact hc3, fun p np => S.newL isL (r1.rep _) w.of_pure np⟩
  · rename_i as bs
    obtain ⟨a, xs, e1, h1, r1⟩ := px.tuple
    rw [py.int] at ry
    subst e1
    have hl := r1.length
    rcases w.of_ite with ⟨⟨hc1, hc2, hc3, hc4⟩, w⟩ | ⟨_, w⟩
    · exact op_repT pins s' σ H _ _ v u Q I rx ry ⟨a, _, xs, rfl, rfl, by rw [hK]; exact h1, fun z => hc1 (by rw [z] at hl; exact List.length_eq_zero_iff.mp hl), hc2, hc3, by rw [← hl]; exact hc4, fun p np => S.newT isL (r1.rep _) w.of_pure rfl np⟩
    · obtain ⟨⟨hc1, hc2⟩, w2⟩ := w.of_guard
      have w3 := w2.of_pure
      subst hc2
      refine op_once pins s' σ H _ _ v u Q I rx ry ⟨a, xs, rfl, rfl, by rw [hK]; exact h1, fun z => hc1 (by rw [z] at hl; exact List.length_eq_zero_iff.mp hl), ?_⟩
      rcases px with px | ⟨_, e⟩
      · exact postV (fr := isL) S w3 px rfl
      · cases e.soft
  · rw [px.bool] at rx; rw [py.bool] at ry
    cases rx; cases ry
    exact PyProof.Rows.sub_bool ⟨.int _, H, I.tok _, ⟨_, rfl⟩, postV S w.of_pure Rp.int rfl⟩
  · exact w.of_fail.elim

/-! ### comparisons -/
theorem Pk.of_non {d : D} (h : Pk U ow H d .non) : d = .none := by
  rcases h with h | ⟨_, _, _, e, _⟩
  · cases d with
    | none => rfl
    | list _ => unfold Rp at h; obtain ⟨_, _, e, _⟩ := h; cases e
    | tuple _ => unfold Rp at h; obtain ⟨_, _, e, _⟩ := h; cases e
    | dict _ => unfold Rp at h; rcases h with ⟨_, e⟩ | ⟨_, _, e, _⟩ <;> cases e
    | _ => unfold Rp at h; cases h
  · cases e
theorem sign1 {a : Str} (h : a.cps.size = 1) : a = ⟨#[a.cps.getD 0 0]⟩ := by
  obtain ⟨c⟩ := a
  have : c = #[c.getD 0 0] := by
    apply Array.ext
    · simpa using h
    · intro i h1 h2
      have : i = 0 := by simp at h; simp at h2; omega
      subst this
      simp [Array.getD, h1]
  exact congrArg Str.mk this
def rCmp (U : Wd) (op : CmpOp) : R2 := fun x y H Q => ∃ ow s dx dy, Hk U ow H s ∧ Pk U ow H dx x ∧ Pk U ow H dy y ∧ Wp (cmpop op dx dy) s (fun b s' => Q (.bl b) H) (fun _ _ => True)
theorem shaped_lay {d : D} (h : SeqAt.shaped d = true) : PyData.canLay0 d = true := SeqAt.canLay_of_shaped h
theorem eqD_wp {dx dy : D} {s : DS} {Q : Bool → DS → Prop} {E : Exc → DS → Prop} (w : Wp (eqD dx dy) s Q E) : SeqAt.shaped dx = true ∧ SeqAt.shaped dy = true ∧ Q (PyData.eqv dx dy) s := by
  unfold eqD at w
  obtain ⟨hc, w⟩ := w.of_guard
  exact ⟨hc.1, hc.2, w.of_pure⟩
theorem inTuple (hu : X.A.units + 65 < cLine) (neg : Bool) : OpR X (compareOp (if neg then .NotIn else .In)) (fun x y H Q => ∃ d ds, Dp X.K H x d ∧ Dp X.K H y (.tuple ds) ∧ SeqAt.shaped d = true ∧ SeqAt.shaped (.tuple ds) = true ∧ Q (.bl (if neg then !(ds.any fun z => PyData.eqv z d) else ds.any fun z => PyData.eqv z d)) H) := by
  intro pins s σ H x y v u Q I rx ry h
  obtain ⟨d, ds, hd, he, sd, se, q⟩ := h
  obtain ⟨as, r1⟩ := Dp.reads I d x v hd rx
  obtain ⟨bs, r2⟩ := Dp.reads I (.tuple ds) y u he ry
  have hl : PyData.canLayAll0 ds = true := by have := SeqAt.canLay_of_shaped se; simpa [PyData.canLay0] using this
  cases neg with
  | false => exact SeqAt.in_tuple_reads r2 r1 hl (SeqAt.canLay_of_shaped sd) (room_in_shaped sd hu) ⟨.bl _, H, I, rfl, q⟩
  | true => exact SeqAt.notIn_tuple_reads r2 r1 hl (SeqAt.canLay_of_shaped sd) (room_in_shaped sd hu) ⟨.bl _, H, I, rfl, q⟩
/-- the dict's rules, by where it stands -/
theorem kds_in (hK : X.K = U.K) (hw : X.w = U.w) {p : Addr} {xs : List (Key × V)} (D : KDs U p xs) (neg : Bool) (z : Str) : OpR X (compareOp (if neg then .NotIn else .In)) (fun x y H Q => x = .str z ∧ y = .ref p ∧ Q (.bl (if neg then !(valV xs (.inr z)).isSome else (valV xs (.inr z)).isSome)) H) := by
  intro pins s' σ H x y v u Q I rx ry h
  obtain ⟨e1, e2, q⟩ := h
  obtain ⟨⟨es, n, kd⟩, hz, _⟩ := D
  obtain ⟨r, hr, ro⟩ := hz z
  rw [← hK, ← hw] at kd
  rw [← hK] at hr
  have hs : (valV xs (.inr z)).isSome = r.isSome := ro.isSome_eq
  rw [hs] at q
  cases neg with
  | false => exact op_in_kd kd pins s' σ H x y v u Q I rx ry ⟨z, r, e1, e2, hr, q⟩
  | true => exact op_notIn_kd kd pins s' σ H x y v u Q I rx ry ⟨z, r, e1, e2, hr, q⟩
theorem or_in (hK : X.K = U.K) (hw : X.w = U.w) (hu : X.A.units + 65 < cLine) (neg : Bool) : OpR X (compareOp (if neg then .NotIn else .In)) (fun x y H Q => ∃ ow s dx dy, Hk U ow H s ∧ Pk U ow H dx x ∧ Pk U ow H dy y ∧ Wp (inD dx dy) s (fun b s' => Q (.bl (if neg then !b else b)) H) (fun _ _ => True)) := by
  intro pins s' σ H x y v u Q I rx ry h
  obtain ⟨ow, s, dx, dy, S, px, py, w⟩ := h
  unfold inD at w
  split at w
  · obtain ⟨hc, w⟩ := w.of_guard
    have w := w.of_pure
    have h1 := px.dp (shaped_lay hc.1)
    have h2 := py.dp (shaped_lay hc.2)
    rw [← hK] at h1 h2
    cases neg with
    | false => exact op_inD hu pins s' σ H x y v u Q I rx ry ⟨_, _, h1, h2, hc.1, hc.2, w⟩
    | true => exact op_notInD hu pins s' σ H x y v u Q I rx ry ⟨_, _, h1, h2, hc.1, hc.2, w⟩
  · obtain ⟨hc, w⟩ := w.of_guard
    have w := w.of_pure
    have h1 := px.dp (shaped_lay hc.1)
    have h2 := py.dp (shaped_lay hc.2)
    rw [← hK] at h1 h2
    exact inTuple hu neg pins s' σ H x y v u Q I rx ry ⟨_, _, h1, h2, hc.1, hc.2, w⟩
  · obtain ⟨hc, w⟩ := w.of_guard
    have w := w.of_pure
    rw [px.str, sign1 hc] at rx; rw [py.str] at ry
    cases neg with
    | false => exact op_in_sign pins s' σ H _ _ v u Q I rx ry ⟨_, _, rfl, rfl, w⟩
    | true => exact op_notIn_sign pins s' σ H _ _ v u Q I rx ry ⟨_, _, rfl, rfl, w⟩
  · rename_i a kvs
    obtain ⟨hd, w⟩ := w.of_guard
    have w := w.of_pure
    obtain ⟨p, xs, e1, hp, r⟩ := py.dict hd
    have ex := px.str
    rw [r.isSome] at w
    rcases hp with hp | hp
    · subst e1 ex
      obtain rfl : u = Value.ref p := ry
      have dg : DGet H p (.str a) (valV xs (.inr a)) := DGet.k (k := .inr a) hp
      cases neg with
      | false => exact d_in (by omega) I dg rx fun s3 I3 => ⟨.bl _, H, I3, rfl, w⟩
      | true => exact d_notIn (by omega) I dg rx fun s3 I3 => ⟨.bl _, H, I3, rfl, w⟩
    · exact kds_in hK hw hp neg a pins s' σ H x y v u Q I rx ry ⟨ex, e1, w⟩
  · exact w.of_fail.elim
theorem or_cmp (hK : X.K = U.K) (hw : X.w = U.w) (hu : X.A.units + 65 < cLine) (op : CmpOp) : OpR X (compareOp op) (rCmp U op) := by
  intro pins s' σ H x y v u Q I rx ry h
  obtain ⟨ow, s, dx, dy, S, px, py, w⟩ := h
  unfold cmpop at w
  split at w
  · obtain ⟨h1, h2, w⟩ := eqD_wp w
    have k1 := px.dp (shaped_lay h1); have k2 := py.dp (shaped_lay h2)
    rw [← hK] at k1 k2
    exact op_eqD (by omega) pins s' σ H x y v u Q I rx ry ⟨_, _, k1, k2, h1, h2, w⟩
  · obtain ⟨h1, h2, w⟩ := eqD_wp w.of_bind
    have w := w.of_pure
    have k1 := px.dp (shaped_lay h1); have k2 := py.dp (shaped_lay h2)
    rw [← hK] at k1 k2
    exact op_neD (by omega) pins s' σ H x y v u Q I rx ry ⟨_, _, k1, k2, h1, h2, w⟩
  · rw [px.int] at rx; rw [py.int] at ry
    exact op_lt pins s' σ H _ _ v u Q I rx ry ⟨_, _, rfl, rfl, w.of_pure⟩
  · rw [px.int] at rx; rw [py.int] at ry
    exact op_le pins s' σ H _ _ v u Q I rx ry ⟨_, _, rfl, rfl, w.of_pure⟩
  · rw [px.int] at rx; rw [py.int] at ry
    exact op_gt pins s' σ H _ _ v u Q I rx ry ⟨_, _, rfl, rfl, w.of_pure⟩
  · rw [px.int] at rx; rw [py.int] at ry
    exact op_ge pins s' σ H _ _ v u Q I rx ry ⟨_, _, rfl, rfl, w.of_pure⟩
  · have hx : Q (.bl (decide (x = .non))) H := by
      split at w
      · rw [px.none]; exact w.of_pure
      · rename_i hn
        have w := w.of_pure
        have : x ≠ .non := fun z => by
          subst z
          exact hn (px.of_non)
        rw [decide_eq_false this]; exact w
    exact op_isN pins s' σ H _ _ v u Q I rx ry ⟨py.none, hx⟩
  · have hx : Q (.bl (!decide (x = .non))) H := by
      split at w
      · rw [px.none]; exact w.of_pure
      · rename_i hn
        have w := w.of_pure
        have : x ≠ .non := fun z => by
          subst z
          exact hn (px.of_non)
        rw [decide_eq_false this]; exact w
    exact op_notN pins s' σ H _ _ v u Q I rx ry ⟨py.none, hx⟩
  · exact op_isBl pins s' σ H _ _ v u Q I rx ry ⟨_, _, px.bool, py.bool, by rw [← Bool.beq_eq_decide_eq]; exact w.of_pure⟩
  · exact op_notBl pins s' σ H _ _ v u Q I rx ry ⟨_, _, px.bool, py.bool, by rw [← Bool.beq_eq_decide_eq]; exact w.of_pure⟩
  · exact or_in hK hw hu false pins s' σ H x y v u Q I rx ry ⟨ow, s, _, _, S, px, py, w⟩
  · exact or_in hK hw hu true pins s' σ H x y v u Q I rx ry ⟨ow, s, _, _, S, px, py, w.of_bind.mono (fun b s' h => h.of_pure) fun _ _ h => h⟩
  · exact w.of_fail.elim

/-! ### places -/
def rIxA (U : Wd) : R2 := fun x y H Q => ∃ ow s dx dy, Hk U ow H s ∧ Pk U ow H dx x ∧ Pk U ow H dy y ∧ Wp (getD' dx dy) s (PostE U ow (fun _ => false) H Q) (fun _ _ => True)
theorem atI_get {α β : Type} {xs : List α} {ys : List β} {i : Int} {a : α} (hl : xs.length = ys.length) (h : L2.atI xs i = some a) : ∃ j : Nat, xs[j]? = some a ∧ ∀ b, ys[j]? = some b → L2.atI ys i = some b := by
  unfold L2.atI at h ⊢
  rw [hl] at h
  cases e : L2.ixN ys.length i with
  | none => rw [e] at h; cases h
  | some j =>
    rw [e] at h
    exact ⟨j, h, fun b hb => hb⟩
theorem Pk.dictAt {ow : Ow} {H : Hp} {kvs : List (D × D)} {v : V} {k : Key} {d : D} (h : Pk U ow H (.dict kvs) v) (e : dAt k kvs = some d) : ∃ a xs, v = .ref a ∧ (H a = some (.dK xs) ∨ KDs U a xs) ∧ RpD U ow H kvs xs := by
  rcases h with h | ⟨i, a, u, e2, h1, h2, h3, r⟩
  · unfold Rp at h
    rcases h with ⟨q, _⟩ | ⟨a, xs, e, n, r⟩
    · subst q; cases e
    · exact ⟨a, xs, e, n.imp (fun n => n.1) id, r⟩
  · obtain ⟨xs, eu, r2⟩ := r.dict
    subst eu
    exact ⟨a, xs, e2, .inl h1, r2⟩
theorem dict_ix (hK : X.K = U.K) (hw : X.w = U.w) (hu : X.A.units + 1 < cLine) {ow : Ow} (a b : Expr) (pins : List (Addr × Obj)) (s' : Shared) (σ : L2.St) (H : Hp) (x y : V) (v u : Value) (Q : VK) (I : Inv X pins σ H s') (rx : RelV x v) (ry : RelV y u) {k : Key} {kvs : List (D × D)} {d : D}
    (hy : y = kV k) (px : Pk U ow H (.dict kvs) x) (e : dAt k kvs = some d) (q : ∀ v', Rp U ow H d v' → Q v' H) (hs : subscripted b false v u = operate [v, u] (getItem v u)) : wpAny (model X.prog X.w) X.A (subscriptTail a b v u) (EP X pins σ Q) X.xe s' := by
  obtain ⟨p, xs, ex, hp, r⟩ := px.dictAt e
  obtain ⟨v', h1, rp⟩ := r.hit e
  subst ex hy
  obtain rfl : v = Value.ref p := rx
  rcases hp with hp | hp
  · have dg : DGet H p (kV k) (some v') := by rw [← h1]; exact DGet.k hp
    exact tail_any (dict_typeIs I dg) PySem.F.slot_dict_getitem.lookup (d_getItem hu I dg ry fun w' s3 I3 rw' => ⟨v', H, I3, rw', q v' rp⟩) hs
  · obtain ⟨⟨es, n, kd⟩, hz, ht⟩ := hp
    cases k with
    | inl i =>
      exfalso
      unfold valV at h1
      cases hf : xs.find? (fun kv => decide (kv.1 = Sum.inl i)) with
      | none => rw [hf] at h1; cases h1
      | some p =>
        have h2 := List.find?_some hf
        obtain ⟨z, e3⟩ := ht p (List.mem_of_find?_eq_some hf)
        rw [e3] at h2
        simp at h2
    | inr z =>
      obtain ⟨r', hr, ro⟩ := hz z
      rw [h1] at ro
      cases r' with
      | none => exact ro.elim
      | some u0 =>
        rw [← hK] at hr
        rw [← hK, ← hw] at kd
        exact ix_kdict a b pins s' σ H (.ref p) (kV (.inr z)) _ u Q I rfl ry ⟨p, z, v', rfl, rfl, ⟨es, n, u0, kd.at_, kd.lit, hr, ro⟩, q v' rp⟩ hs
theorem or_ix (hK : X.K = U.K) (hw : X.w = U.w) (hu : X.A.units + 65 < cLine) : IxR X (rIxA U) := by
  intro a b pins s' σ H x y v u Q I rx ry h hs
  obtain ⟨ow, s, dx, dy, S, px, py, w⟩ := h
  unfold getD' at w
  split at w
  · obtain ⟨p, xs, e1, h1, r1⟩ := px.list
    rw [py.int] at ry
    subst e1
    split at w
    · rename_i ds i d e
      have w := w.of_pure
      obtain ⟨j, hj, hb⟩ := atI_get r1.length e
      obtain ⟨x', hx', rp⟩ := r1.get hj
      exact ix_list a b pins s' σ H _ _ v u Q I rx ry ⟨p, xs, _, x', rfl, rfl, .inl (.inl h1), hb x' hx', postV S w rp rfl⟩ hs
    · exact w.of_fail.elim
  · obtain ⟨p, xs, e1, h1, r1⟩ := px.tuple
    rw [py.int] at ry
    subst e1
    split at w
    · rename_i ds i d e
      have w := w.of_pure
      obtain ⟨j, hj, hb⟩ := atI_get r1.length e
      obtain ⟨x', hx', rp⟩ := r1.get hj
      exact ix_tup a b pins s' σ H _ _ v u Q I rx ry ⟨p, xs, _, x', rfl, rfl, by rw [hK]; exact h1, hb x' hx', postV S w rp rfl⟩ hs
    · exact w.of_fail.elim
  · rename_i z i
    rw [px.str] at rx; rw [py.int] at ry
    split at w
    · rename_i c e
      obtain ⟨hz, w⟩ := w.of_guard
      have w := w.of_pure
      rw [sline_eq] at hz
      exact ix_str a b pins s' σ H _ _ v u Q I rx ry ⟨z, i, c, rfl, rfl, hz, e, postV S w Rp.str rfl⟩ hs
    · exact w.of_fail.elim
  · rename_i kvs i
    split at w
    · rename_i d e
      have w := w.of_pure
      exact dict_ix hK hw (by omega) a b pins s' σ H x y v u Q I rx ry (k := .inl i) py.int px e (fun v' rp => postV S w rp rfl) hs
    · exact w.of_fail.elim
  · rename_i kvs i
    split at w
    · rename_i d e
      have w := w.of_pure
      exact dict_ix hK hw (by omega) a b pins s' σ H x y v u Q I rx ry (k := .inr i) py.str px e (fun v' rp => postV S w rp rfl) hs
    · exact w.of_fail.elim
  · exact w.of_fail.elim
def rSlA' (U : Wd) : V → Option Int → Option Int → Hp → VK → Prop := fun x lo hi H Q => ∃ ow s dx, Hk U ow H s ∧ Pk U ow H dx x ∧ Wp (getS dx lo hi) s (PostE U ow isL H Q) (fun _ _ => True)
theorem RpL.cut {ds : List D} {xs : List V} (r : RpL U ow H ds xs) (lo hi : Option Int) : RpL U ow H (Py.cut ds lo hi) (L2.cutV xs lo hi) := by
  unfold Py.cut L2.cutV
  rw [r.length]
  exact (r.drop _).take _
theorem or_sl (hK : X.K = U.K) : SlR X (rSlA' U) := by
  intro pins s' σ H x v vl vu lo hi sl Q I rx hs pl pu h
  obtain ⟨ow, s, dx, S, px, w⟩ := h
  unfold getS at w
  split at w
  · obtain ⟨p, xs, e1, h1, r1⟩ := px.list
    exact sl_list pins s' σ H x v vl vu lo hi sl Q I rx hs pl pu ⟨p, xs, e1, .inl (.inl h1), fun q nq => S.newL isL (r1.cut lo hi) w.of_pure nq⟩
  · rename_i ds
    obtain ⟨p, xs, e1, h1, r1⟩ := px.tuple
    have w := w.of_pure
    have hl := r1.length
    refine sl_tupA pins s' σ H x v vl vu lo hi sl Q I rx hs pl pu ⟨p, xs, e1, by rw [hK]; exact h1, fun hw => ?_, fun _ q nq => S.newT isL (r1.cut lo hi) w rfl nq⟩
    have e : Py.cut ds lo hi = ds := by
      unfold Py.cut
      rw [hl, hw.1, hw.2, List.drop_zero, Nat.sub_zero, ← hl, List.take_length]
    rw [e] at w
    rcases px with px | ⟨_, e⟩
    · rw [e1] at px
      exact postV S w px rfl
    · cases e.soft
  · rename_i z
    obtain ⟨hz, w⟩ := w.of_guard
    have w := w.of_pure
    rw [sline_eq] at hz
    exact sl_str pins s' σ H x v vl vu lo hi sl Q I rx hs pl pu ⟨z, px.str, hz, postV S w Rp.str rfl⟩
  · exact w.of_fail.elim
end
end Py

set_option Elab.async false
set_option linter.all false
set_option maxRecDepth 100000
set_option maxHeartbeats 1000000
namespace Py
open PySem PySem.Spec PyProof.Rows L2

section
variable {U : Wd} {k : Nat} {Γ : Cxt} {X : Cx} {W : WX} {G : Gs} {ow : Ow} {H : Hp} {s : DS}
/-! ### argument lists -/
theorem starEach_ns {e : Expr} {es : List Expr} {env : Env} (h : notStar e = true) : starEach (e :: es) env = (false, eval e env) :: starEach es env := by
  cases e <;> first | rfl | exact absurd h (by show ¬ (false = true); decide)
theorem pa_evs {f : St → Expr → M D} (g : ∀ e, PE X e (tOf U W (fun σ => f σ e) fun _ => false)) : ∀ es : List Expr, PA X es (tOfA U W (fun σ => evs (f σ) es))
  | [] => PA.imp pa_nil fun σ H Q h => by
    obtain ⟨H0, ow0, ow, σd, s, S, w⟩ := h
    exact w.of_pure [] H Ext.refl S.cap RpL.nil
  | e :: es => by
    by_cases hn : notStar e = true
    · refine PA.imp (pa_cons (g e) (pa_evs g es) (starEach_ns hn)) fun σ H Q h => ?_
      obtain ⟨H0, ow0, ow, σd, s, S, w⟩ := h
      have w : Wp (evs (f σd) (e :: es)) s _ _ := w
      unfold evs at w
      rw [if_pos hn] at w
      refine ⟨H0, ow0, ow, σd, s, S, w.of_bind.mono (fun d1 s1 h1 v1 H1 e1 c1 r1 _ => ⟨H0, ow0, ow, σd, s1, S.ext e1 c1, h1.of_bind.mono (fun ds s2 h2 vs H2 e2 c2 r2 => h2.of_pure (v1 :: vs) H2 (e1.trans e2) c2 (RpL.cons (r1.ext e2) r2)) fun x s' hx cls od H' e' => hx cls od H' (e1.trans e')⟩) fun _ _ h => h⟩
    · refine ⟨fun pos pins s σ H Q I h => ?_⟩
      obtain ⟨H0, ow0, ow, σd, s, S, w⟩ := h
      have w : Wp (evs (f σd) (e :: es)) s _ _ := w
      unfold evs at w
      rw [if_neg hn] at w
      exact w.of_fail.elim
theorem pa_evsP {f : St → Expr → M D} (g : ∀ e, PE X e (tOfP U W (fun σ => f σ e))) : ∀ es : List Expr, PA X es (tOfPA U W (fun σ => evs (f σ) es))
  | [] => PA.imp pa_nil fun σ H Q h => by
    obtain ⟨H0, ow0, ow, σd, s, S, w⟩ := h
    exact w.of_pure [] H Ext.refl S.cap (by unfold PkL; rfl)
  | e :: es => by
    by_cases hn : notStar e = true
    · refine PA.imp (pa_cons (g e) (pa_evsP g es) (starEach_ns hn)) fun σ H Q h => ?_
      obtain ⟨H0, ow0, ow, σd, s, S, w⟩ := h
      have w : Wp (evs (f σd) (e :: es)) s _ _ := w
      unfold evs at w
      rw [if_pos hn] at w
      refine ⟨H0, ow0, ow, σd, s, S, w.of_bind.mono (fun d1 s1 h1 v1 H1 e1 c1 r1 => ⟨H0, ow0, ow, σd, s1, S.ext e1 c1, h1.of_bind.mono (fun ds s2 h2 vs H2 e2 c2 r2 => h2.of_pure (v1 :: vs) H2 (e1.trans e2) c2 (by unfold PkL; exact ⟨v1, vs, rfl, r1.ext e2, r2⟩)) fun x s' hx cls od H' e' => hx cls od H' (e1.trans e')⟩) fun _ _ h => h⟩
    · refine ⟨fun pos pins s σ H Q I h => ?_⟩
      obtain ⟨H0, ow0, ow, σd, s, S, w⟩ := h
      have w : Wp (evs (f σd) (e :: es)) s _ _ := w
      unfold evs at w
      rw [if_neg hn] at w
      exact w.of_fail.elim
/-- evs needs no star: what calls ask -/
theorem evs_star {f : Expr → M D} {es : List Expr} {s : DS} {Q : List D → DS → Prop} {E : Exc → DS → Prop} (w : Wp (evs f es) s Q E) : ∀ e r, es = e :: r → notStar e = true := by
  intro e r h
  subst h
  unfold evs at w
  exact (w.of_guard).1
theorem plain_star {env : Env} {pos : Pos} : ∀ {es : List Expr}, (∀ e ∈ es, notStar e = true) → (backTo pos (starEach es env)).any (·.1) = false
  | [], _ => rfl
  | e :: es, h => by
    rw [starEach_ns (h e List.mem_cons_self)]
    show ((false || (backTo pos (starEach es env)).any (·.1)) : Bool) = false
    rw [plain_star (fun e' h' => h e' (by simp [h']))]
    rfl
theorem noStars_mem {es : List Expr} (h : noStars es = true) : ∀ e ∈ es, notStar e = true := fun e he => List.all_eq_true.mp h e he

/-! ### the built-in functions -/
def rBi (U : Wd) (f : Str) : List V → Hp → VK → Prop := fun vs H Q => ∃ ow s ds, Hk U ow H s ∧ PkL U ow H ds vs ∧ Wp (bi f ds) s (PostE U ow (fun d => frB f && isL d) H Q) (fun _ _ => True)
theorem PkL.one {d : D} {vs : List V} (h : PkL U ow H [d] vs) : ∃ v, vs = [v] ∧ Pk U ow H d v := by
  unfold PkL at h
  obtain ⟨x, ys, e, p, r⟩ := h
  unfold PkL at r
  subst r
  exact ⟨x, e, p⟩
theorem PkL.two {d e : D} {vs : List V} (h : PkL U ow H [d, e] vs) : ∃ v w, vs = [v, w] ∧ Pk U ow H d v ∧ Pk U ow H e w := by
  unfold PkL at h
  obtain ⟨x, ys, e1, p, r⟩ := h
  obtain ⟨y, e2, q⟩ := PkL.one r
  subst e2
  exact ⟨x, y, e1, p, q⟩
theorem ints_of : ∀ {ds : List D} {xs : List V} {ns : List Int}, RpL U ow H ds xs → intsOf ds = some ns → xs = ns.map V.int
  | [], xs, ns, r, e => by
    unfold RpL at r
    unfold intsOf at e
    cases e; subst r; rfl
  | d :: ds, xs, ns, r, e => by
    unfold RpL at r
    obtain ⟨x, ys, e1, p, r⟩ := r
    unfold intsOf at e
    split at e
    · rename_i z; cases z
    · rename_i i ds' z
      cases z
      cases h : intsOf ds with
      | none => rw [h] at e; cases e
      | some ms =>
        rw [h] at e
        cases e
        unfold Rp at p
        rw [e1, p, ints_of r h]
        rfl
    · cases e
theorem bools_of : ∀ {ds : List D} {xs : List V} {ns : List Bool}, RpL U ow H ds xs → boolsOf ds = some ns → xs = ns.map V.bl
  | [], xs, ns, r, e => by
    unfold RpL at r
    unfold boolsOf at e
    cases e; subst r; rfl
  | d :: ds, xs, ns, r, e => by
    unfold RpL at r
    obtain ⟨x, ys, e1, p, r⟩ := r
    unfold boolsOf at e
    split at e
    · rename_i z; cases z
    · rename_i i ds' z
      cases z
      cases h : boolsOf ds with
      | none => rw [h] at e; cases e
      | some ms =>
        rw [h] at e
        cases e
        unfold Rp at p
        rw [e1, p, bools_of r h]
        rfl
    · cases e
theorem maxI_mem : ∀ (ns : List Int) (n : Int), (ns.foldl max n = n ∨ ns.foldl max n ∈ ns) ∧ n ≤ ns.foldl max n ∧ ∀ m ∈ ns, m ≤ ns.foldl max n
  | [], n => ⟨.inl rfl, Int.le_refl _, fun m h => by simp at h⟩
  | x :: r, n => by
    obtain ⟨h1, h2, h3⟩ := maxI_mem r (max n x)
    rw [List.foldl_cons]
    refine ⟨?_, Int.le_trans (Int.le_max_left _ _) h2, fun m hm => ?_⟩
    · rcases h1 with h1 | h1
      · rw [h1]
        by_cases hc : n ≤ x
        · rw [Int.max_eq_right hc]; exact .inr List.mem_cons_self
        · rw [Int.max_eq_left (by omega)]; exact .inl rfl
      · exact .inr (List.mem_cons_of_mem _ h1)
    · rcases List.mem_cons.mp hm with e | hm
      · subst e; exact Int.le_trans (Int.le_max_right _ _) h2
      · exact h3 m hm
theorem minI_mem : ∀ (ns : List Int) (n : Int), (ns.foldl min n = n ∨ ns.foldl min n ∈ ns) ∧ ns.foldl min n ≤ n ∧ ∀ m ∈ ns, ns.foldl min n ≤ m
  | [], n => ⟨.inl rfl, Int.le_refl _, fun m h => by simp at h⟩
  | x :: r, n => by
    obtain ⟨h1, h2, h3⟩ := minI_mem r (min n x)
    rw [List.foldl_cons]
    refine ⟨?_, Int.le_trans h2 (Int.min_le_left _ _), fun m hm => ?_⟩
    · rcases h1 with h1 | h1
      · rw [h1]
        by_cases hc : n ≤ x
        · rw [Int.min_eq_left hc]; exact .inl rfl
        · rw [Int.min_eq_right (by omega)]; exact .inr List.mem_cons_self
      · exact .inr (List.mem_cons_of_mem _ h1)
    · rcases List.mem_cons.mp hm with e | hm
      · subst e; exact Int.le_trans h2 (Int.min_le_right _ _)
      · exact h3 m hm
theorem maxI_is {n m : Int} {ns : List Int} (hm : m ∈ n :: ns) (hb : ∀ y, y ∈ n :: ns → y ≤ m) : m = maxI (n :: ns) := by
  obtain ⟨h1, h2, h3⟩ := maxI_mem ns n
  show m = ns.foldl max n
  refine Int.le_antisymm ?_ (hb _ ?_)
  · rcases List.mem_cons.mp hm with e | hm
    · subst e; exact h2
    · exact h3 m hm
  · rcases h1 with h1 | h1
    · rw [h1]; exact List.mem_cons_self
    · exact List.mem_cons_of_mem _ h1
theorem minI_is {n m : Int} {ns : List Int} (hm : m ∈ n :: ns) (hb : ∀ y, y ∈ n :: ns → m ≤ y) : m = minI (n :: ns) := by
  obtain ⟨h1, h2, h3⟩ := minI_mem ns n
  show m = ns.foldl min n
  refine Int.le_antisymm (hb _ ?_) ?_
  · rcases h1 with h1 | h1
    · rw [h1]; exact List.mem_cons_self
    · exact List.mem_cons_of_mem _ h1
  · rcases List.mem_cons.mp hm with e | hm
    · subst e; exact h2
    · exact h3 m hm
theorem dp_ints {K : PySem.W.Frag} : ∀ ns : List Int, DpAll K H (ns.map V.int) (ns.map PyData.int)
  | [] => .nil
  | n :: ns => .cons (.int n) (dp_ints ns)
theorem alike_allInts (ns : List Int) : PySem.W.AlikeAll (ns.map PyData.int) := by
  refine ⟨fun x hx y hy => ?_, fun x hx => ?_⟩
  · obtain ⟨i, _, rfl⟩ := List.mem_map.mp hx
    obtain ⟨j, _, rfl⟩ := List.mem_map.mp hy
    rfl
  · obtain ⟨i, _, rfl⟩ := List.mem_map.mp hx
    intro z; cases z
theorem depth_ints : ∀ ns : List Int, PyData.depthAll (ns.map PyData.int) ≤ 1
  | [] => by simp [PyData.depthAll]
  | n :: ns => by
    have := depth_ints ns
    simp only [List.map_cons, PyData.depthAll, PyData.depth]
    omega
theorem cr_maxT (hc : X.calm = true) (hu : X.A.units + 64 < cLine) : CallR X (.builtin "max") (fun vs H Q => ∃ (a : Addr) (n : Int) (ns : List Int), vs = [V.ref a] ∧ SqT X.K H a ((n :: ns).map V.int) ∧ Q (.int (maxI (n :: ns))) H) := by
  intro pins s σ H vs us Q I r h
  obtain ⟨a, n, ns, rfl, hs, q⟩ := h
  obtain ⟨its, rv, hl, _⟩ := I.tuple hs
  rw [Vals.ref1 r]
  obtain ⟨as, hr⟩ := Dp.readsAll I _ _ its (dp_ints (K := X.K) (H := H) (n :: ns)) rv
  refine PySem.W.max_tuple_data (x := .int n) (xs := ns.map .int) (as := as) (I.ok.hd hc) hl hr (alike_allInts (n :: ns)) (by have := depth_ints (n :: ns); simp only [List.map_cons] at this; omega) fun i v h' tk bs _ hv hk => ?_
  rw [PySem.W.maxD_ints] at hv
  cases hv
  exact ⟨.int _, H, I.kept hk, ⟨_, rfl⟩, q⟩
theorem cr_minT (hc : X.calm = true) (hu : X.A.units + 64 < cLine) : CallR X (.builtin "min") (fun vs H Q => ∃ (a : Addr) (n : Int) (ns : List Int), vs = [V.ref a] ∧ SqT X.K H a ((n :: ns).map V.int) ∧ Q (.int (minI (n :: ns))) H) := by
  intro pins s σ H vs us Q I r h
  obtain ⟨a, n, ns, rfl, hs, q⟩ := h
  obtain ⟨its, rv, hl, _⟩ := I.tuple hs
  rw [Vals.ref1 r]
  obtain ⟨as, hr⟩ := Dp.readsAll I _ _ its (dp_ints (K := X.K) (H := H) (n :: ns)) rv
  refine PySem.W.min_tuple_data (x := .int n) (xs := ns.map .int) (as := as) (I.ok.hd hc) hl hr (alike_allInts (n :: ns)) (by have := depth_ints (n :: ns); simp only [List.map_cons] at this; omega) fun i v h' tk bs _ hv hk => ?_
  rw [PySem.W.minD_ints] at hv
  cases hv
  exact ⟨.int _, H, I.kept hk, ⟨_, rfl⟩, q⟩
/-- sum of a tuple of ints -/
theorem cr_sumT (hc : X.calm = true) : CallR X (.builtin "sum") (fun vs H Q => ∃ (a : Addr) (ns : List Int), vs = [V.ref a] ∧ SqT X.K H a (ns.map V.int) ∧ Q (.int ns.sum) H) := by
  intro pins s σ H vs us Q I r h
  obtain ⟨a, ns, rfl, hs, q⟩ := h
  obtain ⟨its, rv, hl, _⟩ := I.tuple hs
  rw [Vals.ref1 r]
  have hi := rv.ints
  obtain ⟨xs, e⟩ := hi.allInts.items
  have hn : numsOf (intItems xs).toList = ns := by rw [← e]; exact hi.numsOf
  rw [nums_intItems] at hn
  have hl : s.heap.IsTuple a its.toArray := hl
  rw [e] at hl
  refine PySem.W.ktm_sumG (I.ok.hd hc) hl fun h' tk t' hk => ?_
  rw [preSum_eq, List.take_of_length_le (by simp), hn]
  exact ⟨.int _, H, I.kept hk, ⟨_, rfl⟩, q⟩
theorem sortI_is {ns ns' : List Int} (h : ns'.Perm ns) (hs : ns'.Pairwise (· ≤ ·)) : sortI ns = ns' := by
  refine List.Perm.eq_of_pairwise (le := (· ≤ ·)) (fun a b _ _ h1 h2 => Int.le_antisymm h1 h2) ?_ hs ((List.mergeSort_perm ns _).trans h.symm)
  have := List.pairwise_mergeSort (le := fun a b : Int => decide (a ≤ b)) (fun a b c h1 h2 => by simp at h1 h2 ⊢; omega) (fun a b => by simp; omega) ns
  exact this.imp fun h => of_decide_eq_true h
theorem RpL.ints : ∀ ns : List Int, RpL U ow H (ns.map PyData.int) (ns.map V.int)
  | [] => RpL.nil
  | n :: ns => RpL.cons Rp.int (RpL.ints ns)
theorem cr_bi (hK : X.K = U.K) (hc : X.calm = true) (hu : X.A.units + 64 < cLine) {f : Str} {u : Value} (hv : bootBuiltins f = some u) : CallR X u (rBi U f) := by
  intro pins s' σ H vs us Q I r h
  obtain ⟨ow, s, ds, S, pl, w⟩ := h
  unfold bi at w
  by_cases h1 : f = ("len" : Str)
  · subst h1
    rw [if_pos rfl] at w
    cases (PySem.boot_len.symm.trans hv)
    split at w
    · obtain ⟨v, rfl, p⟩ := pl.one
      obtain ⟨a, xs, e, hx, rr⟩ := p.list
      subst e
      have w := w.of_pure
      rw [rr.length] at w
      exact call_len_seq pins s' σ H _ us Q I r ⟨a, xs, rfl, .inl (.inl (.inl hx)), postV S w Rp.int rfl⟩
    · obtain ⟨v, rfl, p⟩ := pl.one
      obtain ⟨a, xs, e, hx, rr⟩ := p.tuple
      subst e
      have w := w.of_pure
      rw [rr.length] at w
      exact call_len_seq pins s' σ H _ us Q I r ⟨a, xs, rfl, .inr (by rw [hK]; exact hx), postV S w Rp.int rfl⟩
    · obtain ⟨v, rfl, p⟩ := pl.one
      obtain ⟨hz, w⟩ := w.of_guard
      have w := w.of_pure
      rw [sline_eq] at hz
      rw [p.str] at r
      exact call_len_str pins s' σ H _ us Q I r ⟨_, rfl, hz, postV S w Rp.int rfl⟩
    · exact w.of_fail.elim
  rw [if_neg h1] at w
  by_cases h2 : f = ("sum" : Str)
  · subst h2
    rw [if_pos rfl] at w
    cases ((show bootBuiltins "sum" = some (.builtin "sum") by decide +kernel).symm.trans hv)
    split at w
    · obtain ⟨v, rfl, p⟩ := pl.one
      rename_i x
      split at w
      · rename_i ns e
        have w := w.of_pure
        cases x with
        | list ds =>
          obtain ⟨a, xs, e1, hx, rr⟩ := p.list
          subst e1
          have e2 := ints_of rr (by simpa [itemsOf] using e)
          subst e2
          exact cr_sum hc pins s' σ H _ us Q I r ⟨a, ns, rfl, .inl (.inl hx), postV S w Rp.int rfl⟩
        | tuple ds =>
          obtain ⟨a, xs, e1, hx, rr⟩ := p.tuple
          subst e1
          have e2 := ints_of rr (by simpa [itemsOf] using e)
          subst e2
          exact cr_sumT hc pins s' σ H _ us Q I r ⟨a, ns, rfl, by rw [hK]; exact hx, postV S w Rp.int rfl⟩
        | _ => simp [itemsOf] at e
      · exact w.of_fail.elim
    · exact w.of_fail.elim
  rw [if_neg h2] at w
  by_cases h3 : f = ("abs" : Str)
  · subst h3
    rw [if_pos rfl] at w
    cases (PyProof.Rows.boot_abs.symm.trans hv)
    split at w
    · obtain ⟨v, rfl, p⟩ := pl.one
      rw [p.int] at r
      exact call_abs pins s' σ H _ us Q I r ⟨_, rfl, postV S w.of_pure Rp.int rfl⟩
    · exact w.of_fail.elim
  rw [if_neg h3] at w
  by_cases h4 : f = ("max" : Str)
  · subst h4
    rw [if_pos rfl] at w
    cases ((show bootBuiltins "max" = some (.builtin "max") by decide +kernel).symm.trans hv)
    split at w
    · obtain ⟨v, v', rfl, p, p'⟩ := pl.two
      rw [p.int, p'.int] at r
      exact call_max2 hc pins s' σ H _ us Q I r ⟨_, _, rfl, postV S w.of_pure Rp.int rfl⟩
    · obtain ⟨v, rfl, p⟩ := pl.one
      rename_i x
      split at w
      · rename_i n ns e
        have w := w.of_pure
        cases x with
        | list ds =>
          obtain ⟨a, xs, e1, hx, rr⟩ := p.list
          subst e1
          have e2 := ints_of rr (by simpa [itemsOf] using e)
          subst e2
          refine cr_max hc pins s' σ H _ us Q I r ⟨a, n :: ns, rfl, .inl (.inl hx), by simp, fun m hm hb => ?_⟩
          rw [maxI_is hm hb]
          exact postV S w Rp.int rfl
        | tuple ds =>
          obtain ⟨a, xs, e1, hx, rr⟩ := p.tuple
          subst e1
          have e2 := ints_of rr (by simpa [itemsOf] using e)
          subst e2
          exact cr_maxT hc hu pins s' σ H _ us Q I r ⟨a, n, ns, rfl, by rw [hK]; exact hx, postV S w Rp.int rfl⟩
        | _ => simp [itemsOf] at e
      · exact w.of_fail.elim
    · exact w.of_fail.elim
  rw [if_neg h4] at w
  by_cases h5 : f = ("min" : Str)
  · subst h5
    rw [if_pos rfl] at w
    cases ((show bootBuiltins "min" = some (.builtin "min") by decide +kernel).symm.trans hv)
    split at w
    · obtain ⟨v, v', rfl, p, p'⟩ := pl.two
      rw [p.int, p'.int] at r
      exact call_min2 hc pins s' σ H _ us Q I r ⟨_, _, rfl, postV S w.of_pure Rp.int rfl⟩
    · obtain ⟨v, rfl, p⟩ := pl.one
      rename_i x
      split at w
      · rename_i n ns e
        have w := w.of_pure
        cases x with
        | list ds =>
          obtain ⟨a, xs, e1, hx, rr⟩ := p.list
          subst e1
          have e2 := ints_of rr (by simpa [itemsOf] using e)
          subst e2
          refine cr_min hc pins s' σ H _ us Q I r ⟨a, n :: ns, rfl, .inl (.inl hx), by simp, fun m hm hb => ?_⟩
          rw [minI_is hm hb]
          exact postV S w Rp.int rfl
        | tuple ds =>
          obtain ⟨a, xs, e1, hx, rr⟩ := p.tuple
          subst e1
          have e2 := ints_of rr (by simpa [itemsOf] using e)
          subst e2
          exact cr_minT hc hu pins s' σ H _ us Q I r ⟨a, n, ns, rfl, by rw [hK]; exact hx, postV S w Rp.int rfl⟩
        | _ => simp [itemsOf] at e
      · exact w.of_fail.elim
    · exact w.of_fail.elim
  rw [if_neg h5] at w
  by_cases h6 : f = ("int" : Str)
  · subst h6
    rw [if_pos rfl] at w
    cases (PyProof.Rows.boot_int.symm.trans hv)
    split at w
    · obtain ⟨v, rfl, p⟩ := pl.one
      rw [p.int] at r
      exact call_int1 pins s' σ H _ us Q I r (.inl ⟨_, rfl, postV S w.of_pure Rp.int rfl⟩)
    · obtain ⟨v, rfl, p⟩ := pl.one
      rw [p.bool] at r
      exact call_int1 pins s' σ H _ us Q I r (.inr ⟨_, rfl, postV S w.of_pure Rp.int rfl⟩)
    · exact w.of_fail.elim
  rw [if_neg h6] at w
  by_cases h7 : f = ("list" : Str)
  · subst h7
    rw [if_pos rfl] at w
    cases (PyProof.Rows.boot_list.symm.trans hv)
    split at w
    · obtain ⟨v, rfl, p⟩ := pl.one
      obtain ⟨a, xs, e, hx, rr⟩ := p.list
      subst e
      exact call_list_of pins s' σ H _ us Q I r ⟨a, xs, rfl, .inl (.inl (.inl hx)), fun p np => S.newL _ rr w.of_pure np⟩
    · obtain ⟨v, rfl, p⟩ := pl.one
      obtain ⟨a, xs, e, hx, rr⟩ := p.tuple
      subst e
      exact call_list_of pins s' σ H _ us Q I r ⟨a, xs, rfl, .inr (by rw [hK]; exact hx), fun p np => S.newL _ rr w.of_pure np⟩
    · exact w.of_fail.elim
  rw [if_neg h7] at w
  by_cases h8 : f = ("tuple" : Str)
  · subst h8
    rw [if_pos rfl] at w
    cases (PyProof.Rows.boot_tuple.symm.trans hv)
    split at w
    · obtain ⟨v, rfl, p⟩ := pl.one
      obtain ⟨a, xs, e, hx, rr⟩ := p.list
      subst e
      exact call_tuple_of pins s' σ H _ us Q I r ⟨a, xs, rfl, .inl ⟨.inl (.inl hx), fun p np => S.newT _ rr w.of_pure rfl np⟩⟩
    · obtain ⟨v, rfl, p⟩ := pl.one
      have w := w.of_pure
      rcases p with p | ⟨_, e⟩
      · obtain ⟨a, xs, e, hx, rr⟩ := Pk.tuple (.inl p)
        subst e
        exact call_tuple_of pins s' σ H _ us Q I r ⟨a, xs, rfl, .inr ⟨by rw [hK]; exact hx, postV S w p rfl⟩⟩
      · cases e.soft
    · exact w.of_fail.elim
  rw [if_neg h8] at w
  by_cases h9 : f = ("all" : Str)
  · subst h9
    rw [if_pos rfl] at w
    cases ((show bootBuiltins "all" = some (.builtin "all") by decide +kernel).symm.trans hv)
    split at w
    · obtain ⟨v, rfl, p⟩ := pl.one
      obtain ⟨a, xs, e, hx, rr⟩ := p.list
      subst e
      split at w
      · rename_i bs eb
        have e2 := bools_of rr eb
        subst e2
        exact cr_all hc pins s' σ H _ us Q I r ⟨a, bs, rfl, .inl (.inl hx), postV S w.of_pure Rp.bool rfl⟩
      · exact w.of_fail.elim
    · exact w.of_fail.elim
  rw [if_neg h9] at w
  by_cases h10 : f = ("any" : Str)
  · subst h10
    rw [if_pos rfl] at w
    cases ((show bootBuiltins "any" = some (.builtin "any") by decide +kernel).symm.trans hv)
    split at w
    · obtain ⟨v, rfl, p⟩ := pl.one
      obtain ⟨a, xs, e, hx, rr⟩ := p.list
      subst e
      split at w
      · rename_i bs eb
        have e2 := bools_of rr eb
        subst e2
        exact cr_any hc pins s' σ H _ us Q I r ⟨a, bs, rfl, .inl (.inl hx), postV S w.of_pure Rp.bool rfl⟩
      · exact w.of_fail.elim
    · exact w.of_fail.elim
  rw [if_neg h10] at w
  by_cases h11 : f = ("sorted" : Str)
  · subst h11
    rw [if_pos rfl] at w
    cases ((show bootBuiltins "sorted" = some (.builtin "sorted") by decide +kernel).symm.trans hv)
    split at w
    · obtain ⟨v, rfl, p⟩ := pl.one
      obtain ⟨a, xs, e, hx, rr⟩ := p.list
      subst e
      split at w
      · rename_i ns eb
        have e2 := ints_of rr eb
        subst e2
        refine cr_sortedI pins s' σ H _ us Q I r ⟨a, ns, rfl, .inl (.inl hx), fun ns' p hp hs np => ?_⟩
        rw [← sortI_is hp hs]
        exact S.newL _ (RpL.ints _) w.of_pure np
      · exact w.of_fail.elim
    · exact w.of_fail.elim
  rw [if_neg h11] at w
  exact w.of_fail.elim
end
end Py

set_option Elab.async false
set_option linter.all false
set_option maxRecDepth 100000
set_option maxHeartbeats 1000000
namespace Py
open PySem PySem.Spec PyProof.Rows L2

/-- every expression's reading, where rec is the interpreter -/
def Snd (U : Wd) (k : Nat) (G : Gs) (rec : Cxt → St → Expr → M D) : Prop :=
  ∀ Γ X W, Good U k Γ X W → ∀ e, (∀ m, PE X e (tOf U W (fun σ => rec Γ σ e) (freshE G m e))) ∧ PT X e (tOfT U W (fun σ => tst (rec Γ σ) e))
def PostXE (U : Wd) (E : XK) (H : Hp) (x : Exc) (s' : DS) : Prop := ∀ cls od H', Ext U H H' → Cap U H' s' → XRep U H' x cls od → E cls od H'
/-- what a def promises -/
def spF (U : Wd) (call : Str → List D → M D) (fg : Flg) (x : Str) (n : Nat) : Sp := fun vs H Q E => vs.length = n ∧ ∃ ow s ds, Hk U ow H s ∧ ow U.cell = none ∧ RpL U ow H ds vs ∧
  Wp (call x ds) s (PostE U ow (fun d => fg.fr && isL d) H Q) (PostXE U E H)
/-- the defs are there, up to a level -/
structure FnsOk (U : Wd) (k : Nat) (G : Gs) : Prop where
  fns : ∀ x fg, G.fns x = some fg → ∃ f fd ps, U.mg x = some (.ref f) ∧ PySem.W.keepIn U.K (.ref f) = true ∧ Binds U.K fd ps [] ∧ FnOk U.P U.w U.K U.mg U.base (L2.CX U.P U.w) k f fd ps (spF U G.call fg x ps.length) ∧ ∀ ds s, ds.length ≠ ps.length → G.call x ds s = .fail

section
variable {U : Wd} {k : Nat} {Γ : Cxt} {X : Cx} {W : WX} {G : Gs} {ow : Ow} {H : Hp} {s : DS}
theorem tOf.weak {f : St → M D} {fr fr' : D → Bool} {σ : L2.St} {Q : VK} (hf : ∀ d, fr' d = true → fr d = true) (h : tOf U W f fr' σ H Q) : tOf U W f fr σ H Q := by
  obtain ⟨H0, ow0, ow, σd, s, S, w⟩ := h
  exact ⟨H0, ow0, ow, σd, s, S, w.mono (fun d s' p v H' e c r rf => p v H' e c r fun z => rf (hf d z)) fun _ _ h => h⟩
theorem PE.weak {e : Expr} {f : St → M D} {fr fr' : D → Bool} (h : PE X e (tOf U W f fr)) (hf : ∀ d, fr' d = true → fr d = true) : PE X e (tOf U W f fr') := PE.imp h fun σ H Q q => tOf.weak hf q
theorem PostX.ext {σ : L2.St} {H' : Hp} {x : Exc} {s' : DS} (h : PostX U W σ H x s') (e : Ext U H H') : PostX U W σ H' x s' := fun cls od H'' e' => h cls od H'' (e.trans e')
theorem PostE.ext {fr : D → Bool} {H' : Hp} {Q : VK} {d : D} {s' : DS} (h : PostE U ow fr H Q d s') (e : Ext U H H') : PostE U ow fr H' Q d s' := fun v H'' e' c r rf => h v H'' (e.trans e') c r fun z => by
  obtain ⟨a, u, e2, h1, h2, h3, h4⟩ := rf z
  exact ⟨a, u, e2, e.none h3 h1, h2, h3, h4⟩
theorem Good.hu (g : Good U k Γ X W) : X.A.units + 65 < cLine := by have := g.room.un; omega
/-- a step of two parts -/
theorem tOfP.step {f : St → M D} {β : Type} {kk : D → M β} {σ : L2.St} {H0 : Hp} {ow0 : Ow} {σd : St} (S : SR U H0 ow0 ow σ H σd s) {Qb : β → DS → Prop} (w : Wp (f σd >>= kk) s Qb (PostX U W σ H)) {R : VK}
    (h : ∀ d v H1 s1, Ext U H H1 → SR U H0 ow0 ow σ H1 σd s1 → Pk U ow H1 d v → Wp (kk d) s1 Qb (PostX U W σ H) → R v H1) : tOfP U W f σ H R :=
  ⟨H0, ow0, ow, σd, s, S, w.of_bind.mono (fun d s1 h1 v H1 e c p => h d v H1 s1 e (S.ext e c) p h1) fun _ _ h => h⟩
theorem tOf.step {f : St → M D} {β : Type} {kk : D → M β} {σ : L2.St} {H0 : Hp} {ow0 : Ow} {σd : St} (fr : D → Bool) (S : SR U H0 ow0 ow σ H σd s) {Qb : β → DS → Prop} (w : Wp (f σd >>= kk) s Qb (PostX U W σ H)) {R : VK}
    (h : ∀ d v H1 s1, Ext U H H1 → SR U H0 ow0 ow σ H1 σd s1 → Rp U ow H1 d v → Wp (kk d) s1 Qb (PostX U W σ H) → R v H1) : tOf U W f fr σ H R :=
  ⟨H0, ow0, ow, σd, s, S, w.of_bind.mono (fun d s1 h1 v H1 e c p _ => h d v H1 s1 e (S.ext e c) p h1) fun _ _ h => h⟩
theorem tOfT.step {f : St → M Bool} {β : Type} {kk : Bool → M β} {σ : L2.St} {H0 : Hp} {ow0 : Ow} {σd : St} (S : SR U H0 ow0 ow σ H σd s) {Qb : β → DS → Prop} (w : Wp (f σd >>= kk) s Qb (PostX U W σ H)) {R : Bool → Hp → Prop}
    (h : ∀ d H1 s1, Ext U H H1 → SR U H0 ow0 ow σ H1 σd s1 → Wp (kk d) s1 Qb (PostX U W σ H) → R d H1) : tOfT U W f σ H R :=
  ⟨H0, ow0, ow, σd, s, S, w.of_bind.mono (fun d s1 h1 H1 e c => h d H1 s1 e (S.ext e c) h1) fun _ _ h => h⟩
theorem Wp.at {α : Type} {m : M α} {Q Q' : α → DS → Prop} {E E' : Exc → DS → Prop} (h : Wp m s Q E) (hq : ∀ a s', Q a s' → Q' a s') (he : ∀ x s', E x s' → E' x s') : Wp m s Q' E' := h.mono hq he

theorem pe_bin2 (g : Good U k Γ X W) {a b : Expr} {op : Operator} {pos : Pos} {fa fb : St → M D} (ha : PE X a (tOfP U W fa)) (hb : PE X b (tOfP U W fb)) :
    PE X (.BinOp a op b pos) (tOf U W (fun σ => do let x ← fa σ; let y ← fb σ; binop op x y) isL) := by
  refine PE.imp (pe_op (or_bin g.K op) ha hb) fun σ H Q h => ?_
  obtain ⟨H0, ow0, ow, σd, s, S, w⟩ := h
  refine tOfP.step S w fun d1 v1 H1 s1 e1 S1 p1 w1 => ?_
  refine tOfP.step S1 (w1.mono (fun d s' (q : PostE U ow isL H Q d s') => q.ext e1) fun x s' (q : PostX U W σ H x s') => q.ext e1) fun d2 v2 H2 s2 e2 S2 p2 w2 => ?_
  exact ⟨ow, s2, d1, d2, S2.hk, p1.ext e2, p2, w2.mono (fun d s' (q : PostE U ow isL H1 Q d s') => q.ext e2) fun _ _ _ => trivial⟩
theorem pe_neg2 (g : Good U k Γ X W) {a : Expr} {pos : Pos} {fa : St → M D} {fr : D → Bool} (ha : PE X a (tOf U W fa fr)) :
    PE X (.UnaryOp .USub a pos) (tOf U W (fun σ => do let x ← fa σ; let i ← asInt x; pure (.int (-i))) fun _ => false) := by
  refine PE.imp (pe_un un_neg ha) fun σ H Q h => ?_
  obtain ⟨H0, ow0, ow, σd, s, S, w⟩ := h
  refine tOf.step fr S w fun d1 v1 H1 s1 e1 S1 p1 w1 => ?_
  have w1 := w1.of_bind
  unfold asInt at w1
  split at w1
  · have q := w1.of_pure.of_pure
    unfold Rp at p1
    exact ⟨_, p1, postV S1.hk (PostE.ext q e1) Rp.int rfl⟩
  · exact w1.of_fail.elim
theorem Rp.of_bool {b : Bool} {v : V} (h : Rp U ow H (.bool b) v) : v = .bl b := by unfold Rp at h; exact h
theorem asBool_wp {d : D} {Q : Bool → DS → Prop} {E : Exc → DS → Prop} (w : Wp (asBool d) s Q E) : ∃ b, d = .bool b ∧ Q b s := by
  unfold asBool at w
  split at w
  · exact ⟨_, rfl, w.of_pure⟩
  · exact w.of_fail.elim
theorem tst_wp {f : Expr → M D} {e : Expr} {Q : Bool → DS → Prop} {E : Exc → DS → Prop} (w : Wp (tst f e) s Q E) : noIf e = true ∧ Wp (f e) s (fun d s' => ∃ b, d = .bool b ∧ Q b s') E := by
  unfold tst at w
  obtain ⟨h, w⟩ := w.of_guard
  exact ⟨h, w.of_bind.mono (fun d s' h => asBool_wp h) fun _ _ h => h⟩
/-- a test read as a value -/
theorem tOf.asB {f : St → Expr → M D} {e : Expr} {fr : D → Bool} {σ : L2.St} {R : Bool → Hp → Prop} (h : tOfT U W (fun σ => tst (f σ) e) σ H R) : tOf U W (fun σ => f σ e) fr σ H (fun x H1 => ∃ c, x = .bl c ∧ R c H1) := by
  obtain ⟨H0, ow0, ow, σd, s, S, w⟩ := h
  obtain ⟨_, w⟩ := tst_wp w
  exact ⟨H0, ow0, ow, σd, s, S, w.mono (fun d s' ⟨b, hd, q⟩ v H' e c r _ => by subst hd; exact ⟨b, r.of_bool, q H' e c⟩) fun _ _ h => h⟩
theorem pe_not2 (g : Good U k Γ X W) {a : Expr} {pos : Pos} {f : St → Expr → M D} {fr : D → Bool} (ha : PE X a (tOf U W (fun σ => f σ a) fr)) :
    PE X (.UnaryOp .Not a pos) (tOf U W (fun σ => do let b ← tst (f σ) a; pure (.bool (!b))) fun _ => false) := by
  refine PE.imp (pe_not ha) fun σ H Q h => ?_
  obtain ⟨H0, ow0, ow, σd, s, S, w⟩ := h
  refine tOf.asB (R := fun c H1 => Q (.bl (!c)) H1) ?_
  exact tOfT.step S w fun b H1 s1 e1 S1 w1 => postV S1.hk (PostE.ext w1.of_pure e1) Rp.bool rfl
theorem pt_not2 (g : Good U k Γ X W) {a : Expr} {pos : Pos} {f : St → Expr → M D} (ha : PT X a (tOfT U W (fun σ => tst (f σ) a))) {F : St → Expr → M D} (hF : ∀ σ, F σ (.UnaryOp .Not a pos) = (do let b ← tst (f σ) a; pure (.bool (!b)))) :
    PT X (.UnaryOp .Not a pos) (tOfT U W (fun σ => tst (F σ) (.UnaryOp .Not a pos))) := by
  refine PT.imp (pt_not ha) fun σ H Q h => ?_
  obtain ⟨H0, ow0, ow, σd, s, S, w⟩ := h
  obtain ⟨_, w⟩ := tst_wp w
  rw [hF] at w
  refine tOfT.step S w fun b H1 s1 e1 S1 w1 => ?_
  obtain ⟨b', e, q⟩ := w1.of_pure
  cases e
  exact q H1 e1 S1.cap
/-- a test that is no if, no and .. -/
theorem pt_val2 {e : Expr} {f : St → Expr → M D} {fr : D → Bool} (he : PE X e (tOf U W (fun σ => f σ e) fr)) (hi : ∀ whole, isTrue e X.env whole = (do let v ← whole; standAt e.pos; holding [v] (truthy v))) : PT X e (tOfT U W (fun σ => tst (f σ) e)) :=
  PT.imp (pt_val he hi) fun σ H Q h => tOf.asB h
/-! and, or -/
theorem pe_andL (g : Good U k Γ X W) {f : St → Expr → M D} (ha : ∀ e, PE X e (tOf U W (fun σ => f σ e) fun _ => false)) {pos : Pos} : ∀ es : List Expr, es ≠ [] → PE X (.BoolOp .And es pos) (tOf U W (fun σ => andL (f σ) es) fun _ => false)
  | [], h => absurd rfl h
  | [e], _ => PE.imp (pe_one (ha e)) fun σ H Q h => by
    obtain ⟨H0, ow0, ow, σd, s, S, w⟩ := h
    have w : Wp (andL (f σd) [e]) s _ _ := w
    unfold andL at w
    exact ⟨H0, ow0, ow, σd, s, S, w.of_guard.2⟩
  | e :: e' :: es, _ => PE.imp (pe_and (ha e) (pe_andL g ha (e' :: es) (by simp))) fun σ H Q h => by
    obtain ⟨H0, ow0, ow, σd, s, S, w⟩ := h
    have w : Wp (andL (f σd) (e :: e' :: es)) s _ _ := w
    unfold andL at w
    refine tOf.asB (R := fun c H1 => if c = true then tOf U W (fun σ => andL (f σ) (e' :: es)) (fun _ => false) σ H1 Q else Q (.bl false) H1) (tOfT.step S w fun b H1 s1 e1 S1 w1 => ?_)
    cases b with
    | true => exact ⟨H0, ow0, ow, σd, s1, S1, w1.mono (fun d s' (q : PostE U ow _ H Q d s') => q.ext e1) fun x s' (q : PostX U W σ H x s') => q.ext e1⟩
    | false => exact postV S1.hk (PostE.ext w1.of_pure e1) Rp.bool rfl
theorem pe_orL (g : Good U k Γ X W) {f : St → Expr → M D} (ha : ∀ e, PE X e (tOf U W (fun σ => f σ e) fun _ => false)) {pos : Pos} : ∀ es : List Expr, es ≠ [] → PE X (.BoolOp .Or es pos) (tOf U W (fun σ => orL (f σ) es) fun _ => false)
  | [], h => absurd rfl h
  | [e], _ => PE.imp (pe_one (ha e)) fun σ H Q h => by
    obtain ⟨H0, ow0, ow, σd, s, S, w⟩ := h
    have w : Wp (orL (f σd) [e]) s _ _ := w
    unfold orL at w
    exact ⟨H0, ow0, ow, σd, s, S, w.of_guard.2⟩
  | e :: e' :: es, _ => PE.imp (pe_or (ha e) (pe_orL g ha (e' :: es) (by simp))) fun σ H Q h => by
    obtain ⟨H0, ow0, ow, σd, s, S, w⟩ := h
    have w : Wp (orL (f σd) (e :: e' :: es)) s _ _ := w
    unfold orL at w
    refine tOf.asB (R := fun c H1 => if c = true then Q (.bl true) H1 else tOf U W (fun σ => orL (f σ) (e' :: es)) (fun _ => false) σ H1 Q) (tOfT.step S w fun b H1 s1 e1 S1 w1 => ?_)
    cases b with
    | false => exact ⟨H0, ow0, ow, σd, s1, S1, w1.mono (fun d s' (q : PostE U ow _ H Q d s') => q.ext e1) fun x s' (q : PostX U W σ H x s') => q.ext e1⟩
    | true => exact postV S1.hk (PostE.ext w1.of_pure e1) Rp.bool rfl
/-- the same as tests -/
def tOfL (U : Wd) (W : WX) (f : St → M D) : TT := fun σ H Q => ∃ H0 ow0 ow σd s, SR U H0 ow0 ow σ H σd s ∧ Wp (f σd) s (fun d s' => ∃ b, d = .bool b ∧ ∀ H', Ext U H H' → Cap U H' s' → Q b H') (PostX U W σ H)
theorem tOfL.tst {f : St → Expr → M D} {e : Expr} {σ : L2.St} {Q : Bool → Hp → Prop} (hn : noIf e = true) (h : tOfL U W (fun σ => f σ e) σ H Q) : tOfT U W (fun σ => Py.tst (f σ) e) σ H Q := by
  obtain ⟨H0, ow0, ow, σd, s, S, w⟩ := h
  refine ⟨H0, ow0, ow, σd, s, S, ?_⟩
  show Wp (Py.tst (f σd) e) s _ _
  unfold Py.tst
  rw [if_pos hn]
  rw [Wp.bind_iff]
  exact w.mono (fun d s' ⟨b, hd, q⟩ => by subst hd; exact q) fun _ _ h => h
theorem pw_andL (g : Good U k Γ X W) {f : St → Expr → M D} (ha : ∀ e, PT X e (tOfT U W (fun σ => tst (f σ) e))) {pos : Pos} : ∀ es : List Expr, es ≠ [] → PW X (.BoolOp .And es pos) (tOfL U W (fun σ => andL (f σ) es))
  | [], h => absurd rfl h
  | [e], _ => PW.imp (pw_and1 (ha e)) fun σ H Q h => by
    obtain ⟨H0, ow0, ow, σd, s, S, w⟩ := h
    have w : Wp (andL (f σd) [e]) s _ _ := w
    unfold andL at w
    exact tOfL.tst w.of_guard.1 ⟨H0, ow0, ow, σd, s, S, w.of_guard.2⟩
  | e :: e' :: es, _ => PW.imp (pw_and (ha e) (pw_andL g ha (e' :: es) (by simp))) fun σ H Q h => by
    obtain ⟨H0, ow0, ow, σd, s, S, w⟩ := h
    have w : Wp (andL (f σd) (e :: e' :: es)) s _ _ := w
    unfold andL at w
    refine tOfT.step S w fun b H1 s1 e1 S1 w1 => ?_
    cases b with
    | true => exact ⟨H0, ow0, ow, σd, s1, S1, w1.mono (fun d s' ⟨b, hd, q⟩ => ⟨b, hd, fun H' e' => q H' (e1.trans e')⟩) fun x s' (q : PostX U W σ H x s') => q.ext e1⟩
    | false =>
      obtain ⟨b, hd, q⟩ := w1.of_pure
      cases hd
      exact q H1 e1 S1.cap
theorem pw_orL (g : Good U k Γ X W) {f : St → Expr → M D} (ha : ∀ e, PT X e (tOfT U W (fun σ => tst (f σ) e))) {pos : Pos} : ∀ es : List Expr, es ≠ [] → PW X (.BoolOp .Or es pos) (tOfL U W (fun σ => orL (f σ) es))
  | [], h => absurd rfl h
  | [e], _ => PW.imp (pw_or1 (ha e)) fun σ H Q h => by
    obtain ⟨H0, ow0, ow, σd, s, S, w⟩ := h
    have w : Wp (orL (f σd) [e]) s _ _ := w
    unfold orL at w
    exact tOfL.tst w.of_guard.1 ⟨H0, ow0, ow, σd, s, S, w.of_guard.2⟩
  | e :: e' :: es, _ => PW.imp (pw_or (ha e) (pw_orL g ha (e' :: es) (by simp))) fun σ H Q h => by
    obtain ⟨H0, ow0, ow, σd, s, S, w⟩ := h
    have w : Wp (orL (f σd) (e :: e' :: es)) s _ _ := w
    unfold orL at w
    refine tOfT.step S w fun b H1 s1 e1 S1 w1 => ?_
    cases b with
    | false => exact ⟨H0, ow0, ow, σd, s1, S1, w1.mono (fun d s' ⟨b, hd, q⟩ => ⟨b, hd, fun H' e' => q H' (e1.trans e')⟩) fun x s' (q : PostX U W σ H x s') => q.ext e1⟩
    | true =>
      obtain ⟨b, hd, q⟩ := w1.of_pure
      cases hd
      exact q H1 e1 S1.cap
/-! comparisons -/
theorem cmp_q {op : CmpOp} {dx dy : D} {x y : V} {Q : Bool → Hp → Prop} {E : Exc → DS → Prop} (hk : Hk U ow H s) (px : Pk U ow H dx x) (py : Pk U ow H dy y) (w : Wp (cmpop op dx dy) s (fun b s' => Q b H) E) : rCmp U op x y H (fun z H' => ∃ b, z = .bl b ∧ Q b H') :=
  ⟨ow, s, dx, dy, hk, px, py, w.mono (fun b _ q => ⟨b, rfl, q⟩) fun _ _ _ => trivial⟩
theorem cmpop_s {op : CmpOp} {dx dy : D} {Q : Bool → DS → Prop} {E : Exc → DS → Prop} (w : Wp (cmpop op dx dy) s Q E) : Wp (cmpop op dx dy) s (fun b s' => s' = s ∧ Q b s) E := by
  have key : ∀ x y, (eqD x y s = .fail ∨ ∃ b, eqD x y s = .ok b s) := fun x y => by
    unfold eqD
    split
    · exact .inr ⟨_, rfl⟩
    · exact .inl rfl
  have key2 : ∀ x y, (inD x y s = .fail ∨ ∃ b, inD x y s = .ok b s) := fun x y => by
    unfold inD
    split <;> (try split) <;> first | exact .inr ⟨_, rfl⟩ | exact .inl rfl
  have key3 : cmpop op dx dy s = .fail ∨ ∃ b, cmpop op dx dy s = .ok b s := by
    unfold cmpop
    split
    · exact key _ _
    · rcases key dx dy with h | ⟨b, h⟩
      · exact .inl (by show M.bind (eqD dx dy) _ s = _; unfold M.bind; rw [h])
      · exact .inr ⟨!b, by show M.bind (eqD dx dy) _ s = _; unfold M.bind; rw [h]; rfl⟩
    · exact .inr ⟨_, rfl⟩
    · exact .inr ⟨_, rfl⟩
    · exact .inr ⟨_, rfl⟩
    · exact .inr ⟨_, rfl⟩
    · split <;> exact .inr ⟨_, rfl⟩
    · split <;> exact .inr ⟨_, rfl⟩
    · exact .inr ⟨_, rfl⟩
    · exact .inr ⟨_, rfl⟩
    · exact key2 _ _
    · rename_i x y
      rcases key2 dx dy with h | ⟨b, h⟩
      · exact .inl (by show M.bind (inD dx dy) _ s = _; unfold M.bind; rw [h])
      · exact .inr ⟨!b, by show M.bind (inD dx dy) _ s = _; unfold M.bind; rw [h]; rfl⟩
    · exact .inl rfl
  unfold Wp at w ⊢
  rcases key3 with h | ⟨b, h⟩
  · rw [h] at w; exact w.elim
  · rw [h] at w ⊢; exact ⟨rfl, w⟩
theorem pc_1 (g : Good U k Γ X W) {fa fb : St → M D} {a b : Expr} {op : CmpOp} {pos : Pos} (ha : PE X a (tOfP U W fa)) (hb : PE X b (tOfP U W fb)) (hm : behindInMarks op b = false) :
    PE X (.Compare a [op] [b] pos) (tOf U W (fun σ => cmp1 (fa σ) (fb σ) op) fun _ => false) ∧ PT X (.Compare a [op] [b] pos) (tOfL U W (fun σ => cmp1 (fa σ) (fb σ) op)) := by
  constructor
  · refine PE.imp (pe_cmpR (or_cmp g.K g.w g.hu op) ha hb hm) fun σ H Q h => ?_
    obtain ⟨H0, ow0, ow, σd, s, S, w⟩ := h
    refine tOfP.step S w fun d1 v1 H1 s1 e1 S1 p1 w1 => ?_
    refine tOfP.step S1 (w1.mono (fun d s' (q : PostE U ow _ H Q d s') => q.ext e1) fun x s' (q : PostX U W σ H x s') => q.ext e1) fun d2 v2 H2 s2 e2 S2 p2 w2 => ?_
    refine ⟨ow, s2, d1, d2, S2.hk, p1.ext e2, p2, (cmpop_s w2.of_bind).mono (fun b s' ⟨hs, q⟩ => ?_) fun _ _ _ => trivial⟩
    exact postV S2.hk (PostE.ext q.of_pure e2) Rp.bool rfl
  · refine PT.imp (pt_cmpR (or_cmp g.K g.w g.hu op) ha hb hm) fun σ H Q h => ?_
    obtain ⟨H0, ow0, ow, σd, s, S, w⟩ := h
    show tOfP U W fa σ H _
    refine tOfP.step S w fun d1 v1 H1 s1 e1 S1 p1 w1 => ?_
    refine tOfP.step S1 (w1.mono (fun d s' q => q) fun x s' (q : PostX U W σ H x s') => q.ext e1) fun d2 v2 H2 s2 e2 S2 p2 w2 => ?_
    refine cmp_q S2.hk (p1.ext e2) p2 ((cmpop_s w2.of_bind).mono (fun b s' ⟨hs, q⟩ => ?_) fun _ _ h => h)
    obtain ⟨b', hd, q⟩ := q.of_pure
    cases hd
    exact q H2 (e1.trans e2) S2.cap
theorem pc_2 (g : Good U k Γ X W) {fa fb fc : St → M D} {a b c : Expr} {op op' : CmpOp} {pos : Pos} (ha : PE X a (tOfP U W fa)) (hb : PE X b (tOfP U W fb)) (hc : PE X c (tOfP U W fc)) (hm : lastMarks [op, op'] [b, c] = false) :
    PE X (.Compare a [op, op'] [b, c] pos) (tOf U W (fun σ => cmp2 (fa σ) (fb σ) (fc σ) op op') fun _ => false) ∧ PT X (.Compare a [op, op'] [b, c] pos) (tOfL U W (fun σ => cmp2 (fa σ) (fb σ) (fc σ) op op')) := by
  constructor
  · refine PE.imp (pe_chain (or_cmp g.K g.w g.hu op) (or_cmp g.K g.w g.hu op') ha hb hc hm) fun σ H Q h => ?_
    obtain ⟨H0, ow0, ow, σd, s, S, w⟩ := h
    refine tOfP.step S w fun d1 v1 H1 s1 e1 S1 p1 w1 => ?_
    refine tOfP.step S1 (w1.mono (fun d s' (q : PostE U ow _ H Q d s') => q.ext e1) fun x s' (q : PostX U W σ H x s') => q.ext e1) fun d2 v2 H2 s2 e2 S2 p2 w2 => ?_
    refine ⟨ow, s2, d1, d2, S2.hk, p1.ext e2, p2, (cmpop_s w2.of_bind).mono (fun b s' ⟨hs, q⟩ => ⟨b, rfl, ?_⟩) fun _ _ _ => trivial⟩
    cases b with
    | false =>
      rw [if_neg (by decide)] at q ⊢
      exact postV S2.hk (PostE.ext q.of_pure e2) Rp.bool rfl
    | true =>
      rw [if_pos rfl] at q ⊢
      refine tOfP.step S2 (q.mono (fun d s' (q : PostE U ow _ H1 Q d s') => q.ext e2) fun x s' (q : PostX U W σ H1 x s') => q.ext e2) fun d3 v3 H3 s3 e3 S3 p3 w3 => ?_
      refine ⟨ow, s3, d2, d3, S3.hk, p2.ext e3, p3, (cmpop_s w3.of_bind).mono (fun b s' ⟨hs, q⟩ => ?_) fun _ _ _ => trivial⟩
      exact postV S3.hk (PostE.ext q.of_pure e3) Rp.bool rfl
  · refine PT.imp (pt_chain (or_cmp g.K g.w g.hu op) (or_cmp g.K g.w g.hu op') ha hb hc hm) fun σ H Q h => ?_
    obtain ⟨H0, ow0, ow, σd, s, S, w⟩ := h
    show tOfP U W fa σ H _
    refine tOfP.step S w fun d1 v1 H1 s1 e1 S1 p1 w1 => ?_
    refine tOfP.step S1 (w1.mono (fun d s' q => q) fun x s' (q : PostX U W σ H x s') => q.ext e1) fun d2 v2 H2 s2 e2 S2 p2 w2 => ?_
    refine ⟨ow, s2, d1, d2, S2.hk, p1.ext e2, p2, (cmpop_s w2.of_bind).mono (fun b s' ⟨hs, q⟩ => ⟨b, rfl, ?_⟩) fun _ _ _ => trivial⟩
    cases b with
    | false =>
      rw [if_neg (by decide)] at q ⊢
      obtain ⟨b', hd, q⟩ := q.of_pure
      cases hd
      exact ⟨_, rfl, q H2 (e1.trans e2) S2.cap⟩
    | true =>
      rw [if_pos rfl] at q ⊢
      refine tOfP.step S2 (q.mono (fun d s' q => q) fun x s' (q : PostX U W σ H1 x s') => q.ext e2) fun d3 v3 H3 s3 e3 S3 p3 w3 => ?_
      refine cmp_q S3.hk (p2.ext e3) p3 ((cmpop_s w3.of_bind).mono (fun b s' ⟨hs, q⟩ => ?_) fun _ _ h => h)
      obtain ⟨b', hd, q⟩ := q.of_pure
      cases hd
      exact q H3 ((e1.trans e2).trans e3) S3.cap
section
variable {X : Cx} {a b c d : Expr} {ta tb tc td : TE} {pos : Pos}
/-- a op b op' c op2 d -/
def tChain3 (r r' r2 : R2) (ta tb tc td : TE) : TE := fun σ H Q => ta σ H fun x H1 => tb σ H1 fun y H2 => r x y H2 fun z H3 => ∃ k, z = .bl k ∧
  (if k = true then tc σ H3 fun x2 H4 => r' y x2 H4 fun z2 H5 => ∃ k2, z2 = .bl k2 ∧ (if k2 = true then td σ H5 fun x3 H6 => r2 x2 x3 H6 Q else Q (.bl false) H5) else Q (.bl false) H3)
theorem pe_chain3 {op op' op2 : CmpOp} {r r' r2 : R2} (h1 : OpR X (compareOp op) r) (h2 : OpR X (compareOp op') r') (h3 : OpR X (compareOp op2) r2) (ha : PE X a ta) (hb : PE X b tb) (hc : PE X c tc) (hd : PE X d td)
    (hm : lastMarks [op, op', op2] [b, c, d] = false) : PE X (.Compare a [op, op', op2] [b, c, d] pos) (tChain3 r r' r2 ta tb tc td) := by
  refine ⟨fun pins st sl Hh QQ II hh => ?_⟩
  refine Compare_chain (thn (ha.run pins st sl Hh _ II hh) fun v st1 ⟨x, G1, I1, q1, w1⟩ => chain_link (thn (hb.run pins st1 sl G1 _ I1 w1) fun u st2 ⟨y, G2, I2, q2, w2⟩ =>
    thn (h1 pins st2 sl G2 x y v u _ I2 q1 q2 w2) fun dv st3 ⟨z, G3, I3, q3, k, ek, w3⟩ => ?_)) hm
  subst ek
  cases q3
  refine wpAny_truthy_bool ?_
  cases k with
  | false => exact ite_ff ⟨.bl false, G3, I3, rfl, w3⟩
  | true =>
    refine ite_tt (chain_link (thn (hc.run pins st3 sl G3 _ I3 w3) fun v2 st4 ⟨x2, G4, I4, q4, w4⟩ => thn (h2 pins st4 sl G4 y x2 u v2 _ I4 q2 q4 w4) fun dv2 st5 ⟨z2, G5, I5, q5, k2, ek2, w5⟩ => ?_))
    subst ek2
    cases q5
    refine wpAny_truthy_bool ?_
    cases k2 with
    | false => exact ite_ff ⟨.bl false, G5, I5, rfl, w5⟩
    | true => exact ite_tt (chain_last (thn (hd.run pins st5 sl G5 _ I5 w5) fun v3 st6 ⟨x3, G6, I6, q6, w6⟩ => h3 pins st6 sl G6 x2 x3 v2 v3 QQ I6 q4 q6 w6))
theorem pt_chain3 {op op' op2 : CmpOp} {r r' r2 : R2} (h1 : OpR X (compareOp op) r) (h2 : OpR X (compareOp op') r') (h3 : OpR X (compareOp op2) r2) (ha : PE X a ta) (hb : PE X b tb) (hc : PE X c tc) (hd : PE X d td)
    (hm : lastMarks [op, op', op2] [b, c, d] = false) : PT X (.Compare a [op, op', op2] [b, c, d] pos) (tTest (tChain3 r r' r2 ta tb tc td)) := by
  refine ⟨fun pins st sl Hh QQ II hh => ?_⟩
  refine isTrue_chain (thn (ha.run pins st sl Hh _ II hh) fun v st1 ⟨x, G1, I1, q1, w1⟩ => test_link (thn (hb.run pins st1 sl G1 _ I1 w1) fun u st2 ⟨y, G2, I2, q2, w2⟩ =>
    thn (h1 pins st2 sl G2 x y v u _ I2 q1 q2 w2) fun dv st3 ⟨z, G3, I3, q3, k, ek, w3⟩ => ?_)) hm
  subst ek
  cases q3
  refine wpAny_truthy_bool ?_
  cases k with
  | false =>
    obtain ⟨b1, eb, g1⟩ := w3
    cases eb
    exact ite_ff ⟨G3, I3, g1⟩
  | true =>
    refine ite_tt (test_link (thn (hc.run pins st3 sl G3 _ I3 w3) fun v2 st4 ⟨x2, G4, I4, q4, w4⟩ => thn (h2 pins st4 sl G4 y x2 u v2 _ I4 q2 q4 w4) fun dv2 st5 ⟨z2, G5, I5, q5, k2, ek2, w5⟩ => ?_))
    subst ek2
    cases q5
    refine wpAny_truthy_bool ?_
    cases k2 with
    | false =>
      obtain ⟨b1, eb, g1⟩ := w5
      cases eb
      exact ite_ff ⟨G5, I5, g1⟩
    | true =>
      refine ite_tt (test_last (thn (hd.run pins st5 sl G5 _ I5 w5) fun v3 st6 ⟨x3, G6, I6, q6, w6⟩ => thn (h3 pins st6 sl G6 x2 x3 v2 v3 _ I6 q4 q6 w6) fun dv3 st7 ⟨z3, G7, I7, q7, k3, ek3, w7⟩ => ?_))
      subst ek3
      cases q7
      exact wpAny_truthy_bool ⟨G7, I7, w7⟩
end
theorem pc_3 (g : Good U k Γ X W) {fa fb fc fd : St → M D} {a b c d : Expr} {op op' op2 : CmpOp} {pos : Pos} (ha : PE X a (tOfP U W fa)) (hb : PE X b (tOfP U W fb)) (hc : PE X c (tOfP U W fc)) (hd : PE X d (tOfP U W fd)) (hm : lastMarks [op, op', op2] [b, c, d] = false) :
    PE X (.Compare a [op, op', op2] [b, c, d] pos) (tOf U W (fun σ => cmp3 (fa σ) (fb σ) (fc σ) (fd σ) op op' op2) fun _ => false) ∧ PT X (.Compare a [op, op', op2] [b, c, d] pos) (tOfL U W (fun σ => cmp3 (fa σ) (fb σ) (fc σ) (fd σ) op op' op2)) := by
  constructor
  · refine PE.imp (pe_chain3 (or_cmp g.K g.w g.hu op) (or_cmp g.K g.w g.hu op') (or_cmp g.K g.w g.hu op2) ha hb hc hd hm) fun σ H Q h => ?_
    obtain ⟨H0, ow0, ow, σd, s, S, w⟩ := h
    refine tOfP.step S w fun d1 v1 H1 s1 e1 S1 p1 w1 => ?_
    refine tOfP.step S1 (w1.mono (fun d s' (q : PostE U ow _ H Q d s') => q.ext e1) fun x s' (q : PostX U W σ H x s') => q.ext e1) fun d2 v2 H2 s2 e2 S2 p2 w2 => ?_
    refine ⟨ow, s2, d1, d2, S2.hk, p1.ext e2, p2, (cmpop_s w2.of_bind).mono (fun b s' ⟨hs, q⟩ => ⟨b, rfl, ?_⟩) fun _ _ _ => trivial⟩
    cases b with
    | false =>
      rw [if_neg (by decide)] at q ⊢
      exact postV S2.hk (PostE.ext q.of_pure e2) Rp.bool rfl
    | true =>
      rw [if_pos rfl] at q ⊢
      refine tOfP.step S2 (q.mono (fun d s' (q : PostE U ow _ H1 Q d s') => q.ext e2) fun x s' (q : PostX U W σ H1 x s') => q.ext e2) fun d3 v3 H3 s3 e3 S3 p3 w3 => ?_
      refine ⟨ow, s3, d2, d3, S3.hk, p2.ext e3, p3, (cmpop_s w3.of_bind).mono (fun b s' ⟨hs, q⟩ => ⟨b, rfl, ?_⟩) fun _ _ _ => trivial⟩
      cases b with
      | false =>
        rw [if_neg (by decide)] at q ⊢
        exact postV S3.hk (PostE.ext q.of_pure e3) Rp.bool rfl
      | true =>
        rw [if_pos rfl] at q ⊢
        refine tOfP.step S3 (q.mono (fun d s' (q : PostE U ow _ H2 Q d s') => q.ext e3) fun x s' (q : PostX U W σ H2 x s') => q.ext e3) fun d4 v4 H4 s4 e4 S4 p4 w4 => ?_
        refine ⟨ow, s4, d3, d4, S4.hk, p3.ext e4, p4, (cmpop_s w4.of_bind).mono (fun b s' ⟨hs, q⟩ => ?_) fun _ _ _ => trivial⟩
        exact postV S4.hk (PostE.ext q.of_pure e4) Rp.bool rfl
  · refine PT.imp (pt_chain3 (or_cmp g.K g.w g.hu op) (or_cmp g.K g.w g.hu op') (or_cmp g.K g.w g.hu op2) ha hb hc hd hm) fun σ H Q h => ?_
    obtain ⟨H0, ow0, ow, σd, s, S, w⟩ := h
    show tOfP U W fa σ H _
    refine tOfP.step S w fun d1 v1 H1 s1 e1 S1 p1 w1 => ?_
    refine tOfP.step S1 (w1.mono (fun d s' q => q) fun x s' (q : PostX U W σ H x s') => q.ext e1) fun d2 v2 H2 s2 e2 S2 p2 w2 => ?_
    refine ⟨ow, s2, d1, d2, S2.hk, p1.ext e2, p2, (cmpop_s w2.of_bind).mono (fun b s' ⟨hs, q⟩ => ⟨b, rfl, ?_⟩) fun _ _ _ => trivial⟩
    cases b with
    | false =>
      rw [if_neg (by decide)] at q ⊢
      obtain ⟨b', hd, q⟩ := q.of_pure
      cases hd
      exact ⟨_, rfl, q H2 (e1.trans e2) S2.cap⟩
    | true =>
      rw [if_pos rfl] at q ⊢
      refine tOfP.step S2 (q.mono (fun d s' q => q) fun x s' (q : PostX U W σ H1 x s') => q.ext e2) fun d3 v3 H3 s3 e3 S3 p3 w3 => ?_
      refine ⟨ow, s3, d2, d3, S3.hk, p2.ext e3, p3, (cmpop_s w3.of_bind).mono (fun b s' ⟨hs, q⟩ => ⟨b, rfl, ?_⟩) fun _ _ _ => trivial⟩
      cases b with
      | false =>
        rw [if_neg (by decide)] at q ⊢
        obtain ⟨b', hd, q⟩ := q.of_pure
        cases hd
        exact ⟨_, rfl, q H3 ((e1.trans e2).trans e3) S3.cap⟩
      | true =>
        rw [if_pos rfl] at q ⊢
        refine tOfP.step S3 (q.mono (fun d s' q => q) fun x s' (q : PostX U W σ H2 x s') => q.ext e3) fun d4 v4 H4 s4 e4 S4 p4 w4 => ?_
        refine cmp_q S4.hk (p3.ext e4) p4 ((cmpop_s w4.of_bind).mono (fun b s' ⟨hs, q⟩ => ?_) fun _ _ h => h)
        obtain ⟨b', hd, q⟩ := q.of_pure
        cases hd
        exact q H4 (((e1.trans e2).trans e3).trans e4) S4.cap
end
end Py

set_option Elab.async false
set_option linter.all false
set_option maxRecDepth 100000
set_option maxHeartbeats 2000000
/-! x[::-1] of lists and of tuples -/
namespace HT
open PySem PyProof.Rows
section
variable {prog : Program} {w : World} {A : Around} {E : Value → Shared → Prop} {s : Shared}
theorem adjust_rev (n : Nat) : Builtin.Slice.sliceAdjust none none (-1) (n : Int) = ((n : Int) - 1, -1) := by
  have h1 : ((-1 : Int) < 0) := by decide
  unfold Builtin.Slice.sliceAdjust
  simp only [h1, if_true]
theorem places_rev (n : Nat) : Builtin.Slice.slicePlaces ((n : Int) - 1) (-1) (-1) = n := by
  unfold Builtin.Slice.slicePlaces
  have h1 : ¬ ((-1 : Int) > 0) := by decide
  simp only [h1, if_false]
  by_cases h : n = 0
  · subst h; decide
  · have h2 : (n : Int) - 1 > -1 := by omega
    simp only [h2, if_true, show (- -1 : Int) = 1 by decide, Int.ediv_one]
    omega
theorem sliceApplied_rev {sl : Addr} {vl vu vs : Value} {n : Nat} {Q : Int × Int × Nat → Shared → Prop} (hs : s.heap.IsSliceOf sl vl vu vs) (pl : IsPart vl none) (pu : IsPart vu none) (ps : IsPart vs (some (-1)))
    (h : Q ((n : Int) - 1, -1, n) s) : wpAny (model prog w) A (Builtin.Slice.sliceApplied (.ref sl) (pure (n : Int))) Q E s := by
  obtain ⟨os, hos, hcs, hds⟩ := id hs
  unfold Builtin.Slice.sliceApplied Builtin.Slice.sliceFields
  refine wpAny_bind (wpAny_bind (wpAny_field hos hds (x := vl) rfl (wpAny_bind (wpAny_field hos hds (x := vu) rfl (wpAny_bind (wpAny_field hos hds (x := vs) rfl (wpAny_pure ?_)))))))
  refine wpAny_bind (slicePart_ ps ?_)
  show wpAny _ _ (if ((-1 : Int) == 0) = true then _ else _) _ _ s
  rw [if_neg (by decide)]
  refine wpAny_bind (slicePart_ pl (wpAny_bind (slicePart_ pu (wpAny_bind (wpAny_pure ?_)))))
  show wpAny _ _ (match Builtin.Slice.sliceAdjust none none (-1) (n : Int) with | (lo, hi) => pure (lo, (-1 : Int), Builtin.Slice.slicePlaces lo hi (-1))) _ _ s
  rw [adjust_rev n]
  show wpAny _ _ (pure ((n : Int) - 1, (-1 : Int), Builtin.Slice.slicePlaces ((n : Int) - 1) (-1) (-1))) _ _ s
  rw [places_rev]
  exact wpAny_pure h
theorem fm_congr {α β : Type} {f g : α → Option β} : ∀ l : List α, (∀ x ∈ l, f x = g x) → l.filterMap f = l.filterMap g
  | [], _ => rfl
  | x :: l, h => by
    rw [List.filterMap_cons, List.filterMap_cons, h x (List.mem_cons_self ..), fm_congr l fun y hy => h y (List.mem_cons_of_mem _ hy)]
theorem pick_rev (xs : Array Value) : ((List.range xs.size).filterMap fun (m : Nat) => xs[((xs.size : Int) - 1 + (m : Int) * (-1)).toNat]?).toArray = xs.toList.reverse.toArray := by
  congr 1
  have e : (List.range xs.size).filterMap (fun (m : Nat) => xs[((xs.size : Int) - 1 + (m : Int) * (-1)).toNat]?) = (List.range xs.size).map (fun (m : Nat) => xs.toList.reverse[m]?.getD .none) := by
    rw [← List.filterMap_eq_map]
    apply fm_congr
    intro m hm
    have hm := List.mem_range.mp hm
    have h1 : ((xs.size : Int) - 1 + (m : Int) * (-1)).toNat = xs.size - 1 - m := by omega
    have hl : m < xs.toList.reverse.length := by rw [List.length_reverse, Array.length_toList]; exact hm
    rw [h1]
    show _ = some (xs.toList.reverse[m]?.getD Value.none)
    rw [List.getElem?_eq_getElem hl, Array.getElem?_eq_getElem (by omega)]
    simp
  rw [e]
  apply List.ext_getElem
  · simp
  · intro i h1 h2
    rw [List.getElem_map, List.getElem_range, List.getElem?_eq_getElem h2]
    rfl
theorem getItem_tuple_rev {t sl : Addr} {items : Array Value} {vl vu vs : Value} {Q : Value → Shared → Prop} (ht : IsTup s.heap t items) (hs : s.heap.IsSliceOf sl vl vu vs) (pl : IsPart vl none) (pu : IsPart vu none) (ps : IsPart vs (some (-1)))
    (h : Q (.ref s.heap.objs.size) { s with heap := s.heap.push { cls := .type "tuple", data := .seq items.toList.reverse.toArray } })
    (hsz : items.size ≤ sizeLine) : wpAny (model prog w) A (getItem (.ref t) (.ref sl)) Q E s := by
  have htake : sizeOk (.seq items.toList.reverse.toArray) := by
    show items.toList.reverse.toArray.size ≤ sizeLine
    rw [List.size_toArray, List.length_reverse, Array.length_toList]
    omega
  obtain ⟨os, hos, hcs, hds⟩ := id hs
  have hTs : s.TypeIs (.ref sl) "slice" := ⟨os, hos, hcs⟩
  unfold getItem
  try with_reducible refine wpAny_holding ?_
  first | refine wpAny_bind (wpAny_pure ?_) | skip
  refine wpAny_bind (wpAny_sequenceKey ht.typeIs (by decide) ?_)
  refine wpAny_bind (wpAny_callSpecial?_slot (name := Str.ofString "__getitem__") ht.typeIs PyProof.Rows.slot_tuple_getitem
    (wpAny_call_entry PyProof.Rows.slot_tuple_getitem ht.typeIs entry_tuple_getitem ?_ (args_tuple_getitem _ _)))
  show wpAny _ _ (Builtin.Tuple.tupleItemsOf (.ref t) >>= _) _ _ s
  refine wpAny_bind (tupleItemsOf_ ht ?_)
  refine wpAny_bind (wpAny_typeOf hTs ?_)
  rw [if_pos (by decide)]
  refine wpAny_bind (sliceApplied_rev hs pl pu ps ?_)
  have hno : ¬ (((items.size : Int) - 1 == 0 && (-1 : Int) == 1 && items.size == items.size) = true) := by
    intro q
    rw [Bool.and_eq_true, Bool.and_eq_true] at q
    exact absurd q.1.2 (by decide)
  show wpAny _ _ (if ((items.size : Int) - 1 == 0 && (-1 : Int) == 1 && items.size == items.size) = true then _ else _) _ _ s
  rw [if_neg hno, pick_rev]
  first
    | exact wpAny_bind (m := Builtin.Tuple.tupleExact _) (wpAny_newObj_type (wpAny_pure ⟨_, rfl, wpAny_pure h⟩) htake)
    | exact wpAny_bind (m := Builtin.Tuple.tupleExact _) (wpAny_newObj_type (wpAny_bind (wpAny_pure (wpAny_pure ⟨_, rfl, wpAny_pure h⟩))) htake)
    | exact wpAny_bind (wpAny_bind (m := Builtin.Tuple.tupleExact _) (wpAny_newObj_type (wpAny_pure (wpAny_pure ⟨_, rfl, wpAny_pure h⟩)) htake))
    | exact wpAny_bind (wpAny_bind (m := Builtin.Tuple.tupleExact _) (wpAny_newObj_type (wpAny_pure ⟨_, rfl, wpAny_pure h⟩) htake))
end
end HT
namespace L2
open PySem PySem.Spec PyProof.Rows
section
variable {X : Cx}
def tRevA (K : PySem.W.Frag) (te : TE) : TE := fun σ H Q => te σ H fun x H1 => ∃ a xs, x = .ref a ∧ ((SqL K H1 a xs ∧ ∀ p, H1 p = none → Q (.ref p) (upd H1 p (.lst xs.reverse))) ∨ (SqT K H1 a xs ∧ ∀ p, H1 p = none → Q (.ref p) (upd H1 p (.tup xs.reverse))))
theorem pe_revA {e : Expr} {te : TE} {k : Nat} {p1 p2 p3 pos : Pos} (he : PE X e te) : PE X (.Subscript e (.Slice none none (some (.UnaryOp .USub (.Constant (.int 1) k p1) p2)) p3) pos) (tRevA X.K te) := by
  refine ⟨fun pins s σ H Q I h => ?_⟩
  refine Subscript_ (thn (he.run pins s σ H _ I h) fun v s1 ⟨x, H1, I1, r1, q1⟩ => ?_)
  obtain ⟨a, xs, ex, q⟩ := q1
  subst ex
  cases r1
  have hst : PO X (some (.UnaryOp .USub (.Constant (.int 1) k p1) p2)) (tPart (tUn (rU fun i => .int (-i)) (tC (.int 1)))) := po_some (pe_un un_neg pe_int)
  refine wpAny_Slice (thn (po_none.run pins s1 σ H1 (fun o H2 => o = none ∧ H2 = H1) I1 ⟨rfl, rfl⟩) fun vl s2 ⟨l, H2, I2, pl, el, e2⟩ => ?_)
  subst el e2
  refine thn (po_none.run pins s2 σ H2 (fun o H3 => o = none ∧ H3 = H2) I2 ⟨rfl, rfl⟩) fun vu s3 ⟨u, H3, I3, pu, eu, e3⟩ => ?_
  subst eu e3
  refine thn (hst.run pins s3 σ H3 (fun o H4 => o = some (-1) ∧ H4 = H3) I3 ⟨1, rfl, -1, rfl, rfl, rfl⟩) fun vs s4 ⟨o, H4, I4, ps, eo, e4⟩ => ?_
  subst eo e4
  have I5 : Inv X pins σ H4 { s4 with heap := s4.heap.push { cls := .type "slice", data := .fields #[vl, vu, vs] } } := I4.kept (t' := s4.toks) fun b ob q => Heap.get?_push_of_some _ q
  rcases q with ⟨hx, q⟩ | ⟨hx, q⟩
  · obtain ⟨its, r, ht, hz⟩ := I5.list hx
    have hlen := r.length
    show wpAny (model X.prog X.w) X.A (subscriptTail e (.Slice none none (some (.UnaryOp .USub (.Constant (.int 1) k p1) p2)) p3) (.ref a) (.ref s4.heap.objs.size)) (EP X pins σ Q) X.xe { s4 with heap := s4.heap.push { cls := .type "slice", data := .fields #[vl, vu, vs] } }
    refine tail_any (ops := [.ref a, .ref s4.heap.objs.size]) ht.isList.typeIs (PySem.slot_list_getitem.lookup) ?_ (by with_unfolding_all rfl)
    refine wpAny_getItem_list_slice ht.isList (Heap.IsSliceOf.new _ vl vu vs) pl pu ps (by decide) ?_ (by rw [List.size_toArray]; omega)
    rw [PySem.W.krv_pick]
    refine ⟨.ref _, _, I5.laid (t' := s4.toks) (o := .lst xs.reverse) (fun b ob q => Heap.get?_push_of_some _ q) (Nat.le_refl _) ?_, rfl, q _ (I5.hok.fresh (Nat.le_refl _))⟩
    exact ⟨by rw [List.length_reverse]; exact hz, _, 0, r.reverse, Heap.get?_push_size _ rfl⟩
  · obtain ⟨its, r, ht, hz⟩ := I5.tuple hx
    have hlen := r.length
    show wpAny (model X.prog X.w) X.A (subscriptTail e (.Slice none none (some (.UnaryOp .USub (.Constant (.int 1) k p1) p2)) p3) (.ref a) (.ref s4.heap.objs.size)) (EP X pins σ Q) X.xe { s4 with heap := s4.heap.push { cls := .type "slice", data := .fields #[vl, vu, vs] } }
    refine tail_any (ops := [.ref a, .ref s4.heap.objs.size]) ht.typeIs (PyProof.Rows.slot_tuple_getitem.lookup) ?_ (by with_unfolding_all rfl)
    refine HT.getItem_tuple_rev ht (Heap.IsSliceOf.new _ vl vu vs) pl pu ps ?_ (by rw [List.size_toArray]; omega)
    refine ⟨.ref _, _, I5.laid (t' := s4.toks) (o := .tup xs.reverse) (fun b ob q => Heap.get?_push_of_some _ q) (Nat.le_refl _) ?_, rfl, q _ (I5.hok.fresh (Nat.le_refl _))⟩
    exact ⟨by rw [List.length_reverse]; exact hz, _, r.reverse, IsTup.new _ _⟩
end
end L2

set_option Elab.async false
set_option linter.all false
set_option maxRecDepth 100000
set_option maxHeartbeats 1000000
namespace Py
open PySem PySem.Spec PyProof.Rows L2

section
variable {U : Wd} {k : Nat} {Γ : Cxt} {X : Cx} {W : WX} {G : Gs} {ow : Ow} {H : Hp} {s : DS}
theorem pe_if2 (g : Good U k Γ X W) {c a b : Expr} {pos : Pos} {f : St → Expr → M D} {fr fra frb : D → Bool} (hc : PT X c (tOfT U W (fun σ => tst (f σ) c))) (ha : PE X a (tOf U W (fun σ => f σ a) fra)) (hb : PE X b (tOf U W (fun σ => f σ b) frb))
    (h1 : ∀ d, fr d = true → fra d = true) (h2 : ∀ d, fr d = true → frb d = true) :
    PE X (.IfExp c a b pos) (tOf U W (fun σ => do let t ← tst (f σ) c; if t = true then f σ a else f σ b) fr) := by
  refine PE.imp (pe_ifExp hc (PE.weak ha h1) (PE.weak hb h2)) fun σ H Q h => ?_
  obtain ⟨H0, ow0, ow, σd, s, S, w⟩ := h
  refine tOfT.step S w fun t H1 s1 e1 S1 w1 => ?_
  cases t with
  | true =>
    rw [if_pos rfl] at w1 ⊢
    exact ⟨H0, ow0, ow, σd, s1, S1, w1.mono (fun d s' (q : PostE U ow fr H Q d s') => q.ext e1) fun x s' (q : PostX U W σ H x s') => q.ext e1⟩
  | false =>
    rw [if_neg (by decide)] at w1 ⊢
    exact ⟨H0, ow0, ow, σd, s1, S1, w1.mono (fun d s' (q : PostE U ow fr H Q d s') => q.ext e1) fun x s' (q : PostX U W σ H x s') => q.ext e1⟩
theorem tOfA.step {f : St → M (List D)} {β : Type} {kk : List D → M β} {σ : L2.St} {H0 : Hp} {ow0 : Ow} {σd : St} (S : SR U H0 ow0 ow σ H σd s) {Qb : β → DS → Prop} (w : Wp (f σd >>= kk) s Qb (PostX U W σ H)) {R : List V → Hp → Prop}
    (h : ∀ d v H1 s1, Ext U H H1 → SR U H0 ow0 ow σ H1 σd s1 → RpL U ow H1 d v → Wp (kk d) s1 Qb (PostX U W σ H) → R v H1) : tOfA U W f σ H R :=
  ⟨H0, ow0, ow, σd, s, S, w.of_bind.mono (fun d s1 h1 v H1 e c p => h d v H1 s1 e (S.ext e c) p h1) fun _ _ h => h⟩
theorem tOfPA.step {f : St → M (List D)} {β : Type} {kk : List D → M β} {σ : L2.St} {H0 : Hp} {ow0 : Ow} {σd : St} (S : SR U H0 ow0 ow σ H σd s) {Qb : β → DS → Prop} (w : Wp (f σd >>= kk) s Qb (PostX U W σ H)) {R : List V → Hp → Prop}
    (h : ∀ d v H1 s1, Ext U H H1 → SR U H0 ow0 ow σ H1 σd s1 → PkL U ow H1 d v → Wp (kk d) s1 Qb (PostX U W σ H) → R v H1) : tOfPA U W f σ H R :=
  ⟨H0, ow0, ow, σd, s, S, w.of_bind.mono (fun d s1 h1 v H1 e c p => h d v H1 s1 e (S.ext e c) p h1) fun _ _ h => h⟩
theorem pe_tup2 (g : Good U k Γ X W) {es : List Expr} {j : Nat} {pos : Pos} {f : St → M (List D)} (ha : PA X es (tOfA U W f)) :
    PE X (.Tuple es j pos) (tOf U W (fun σ => do let ds ← f σ; if ds.length ≤ sline then pure (.tuple ds) else fail) fun _ => false) := by
  refine PE.imp (pe_tup ha) fun σ H Q h => ?_
  obtain ⟨H0, ow0, ow, σd, s, S, w⟩ := h
  refine tOfA.step S w fun ds vs H1 s1 e1 S1 p1 w1 => ?_
  obtain ⟨hl, w1⟩ := w1.of_guard
  exact ⟨by rw [← p1.length, ← sline_eq]; exact hl, fun p np => S1.hk.newT _ p1 (PostE.ext w1.of_pure e1) rfl np⟩
theorem pe_lst2 (g : Good U k Γ X W) {es : List Expr} {pos : Pos} {f : St → M (List D)} (ha : PA X es (tOfA U W f)) :
    PE X (.List es pos) (tOf U W (fun σ => do let ds ← f σ; if ds.length ≤ sline then pure (.list ds) else fail) isL) := by
  refine PE.imp (pe_lst ha) fun σ H Q h => ?_
  obtain ⟨H0, ow0, ow, σd, s, S, w⟩ := h
  refine tOfA.step S w fun ds vs H1 s1 e1 S1 p1 w1 => ?_
  obtain ⟨hl, w1⟩ := w1.of_guard
  exact ⟨by rw [← p1.length, ← sline_eq]; exact hl, fun p np => S1.hk.newL _ p1 (PostE.ext w1.of_pure e1) np⟩
theorem pe_ix2 (g : Good U k Γ X W) {a i : Expr} {pos : Pos} {fa fi : St → M D} (ha : PE X a (tOfP U W fa)) (hi : PE X i (tOfP U W fi)) (hp : PlainIx i) :
    PE X (.Subscript a i pos) (tOf U W (fun σ => do let x ← fa σ; let y ← fi σ; getD' x y) fun _ => false) := by
  refine PE.imp (pe_ix (or_ix g.K g.w g.hu) ha hi hp) fun σ H Q h => ?_
  obtain ⟨H0, ow0, ow, σd, s, S, w⟩ := h
  refine tOfP.step S w fun d1 v1 H1 s1 e1 S1 p1 w1 => ?_
  refine tOfP.step S1 (w1.mono (fun d s' (q : PostE U ow _ H Q d s') => q.ext e1) fun x s' (q : PostX U W σ H x s') => q.ext e1) fun d2 v2 H2 s2 e2 S2 p2 w2 => ?_
  exact ⟨ow, s2, d1, d2, S2.hk, p1.ext e2, p2, w2.mono (fun d s' (q : PostE U ow _ H1 Q d s') => q.ext e2) fun _ _ _ => trivial⟩
/-- a part of a slice -/
def tOfO (U : Wd) (W : WX) (f : St → M (Option Int)) : TO := fun σ H Q => ∃ H0 ow0 ow σd s, SR U H0 ow0 ow σ H σd s ∧ Wp (f σd) s (fun o s' => ∀ H', Ext U H H' → Cap U H' s' → Q o H') (PostX U W σ H)
theorem PO.imp {e : Option Expr} {t t' : TO} (h : PO X e t) (i : ∀ σ H Q, t' σ H Q → t σ H Q) : PO X e t' := by
  cases e <;> exact ⟨fun pins s σ H Q I q => h.run pins s σ H Q I (i σ H Q q)⟩
theorem po_2 {f : St → Expr → M D} (ha : ∀ e, PE X e (tOfP U W (fun σ => f σ e))) : ∀ o : Option Expr, PO X o (tOfO U W (fun σ => evO (f σ) o))
  | none => PO.imp po_none fun σ H Q h => by
    obtain ⟨H0, ow0, ow, σd, s, S, w⟩ := h
    exact w.of_pure H Ext.refl S.cap
  | some e => PO.imp (po_some (ha e)) fun σ H Q h => by
    obtain ⟨H0, ow0, ow, σd, s, S, w⟩ := h
    refine tOfP.step S w fun d1 v1 H1 s1 e1 S1 p1 w1 => ?_
    have w1 := w1.of_bind
    unfold asInt at w1
    split at w1
    · exact ⟨_, p1.int, w1.of_pure.of_pure H1 e1 S1.cap⟩
    · exact w1.of_fail.elim
theorem pe_sl2 (g : Good U k Γ X W) {a : Expr} {lo hi : Option Expr} {pos p2 : Pos} {fa : St → M D} {fl fh : St → M (Option Int)} (ha : PE X a (tOfP U W fa)) (hl : PO X lo (tOfO U W fl)) (hh : PO X hi (tOfO U W fh)) :
    PE X (.Subscript a (.Slice lo hi none p2) pos) (tOf U W (fun σ => do let x ← fa σ; let l ← fl σ; let h ← fh σ; getS x l h) isL) := by
  refine PE.imp (pe_slice (or_sl g.K) ha hl hh) fun σ H Q h => ?_
  obtain ⟨H0, ow0, ow, σd, s, S, w⟩ := h
  refine tOfP.step S w fun d1 v1 H1 s1 e1 S1 p1 w1 => ?_
  refine ⟨H0, ow0, ow, σd, s1, S1, w1.of_bind.mono (fun l s2 h2 H2 e2 c2 => ⟨H0, ow0, ow, σd, s2, S1.ext e2 c2, h2.of_bind.mono (fun u s3 h3 H3 e3 c3 => ?_) fun x s' (q : PostX U W σ H x s') => q.ext (e1.trans e2)⟩) fun x s' (q : PostX U W σ H x s') => q.ext e1⟩
  exact ⟨ow, s3, d1, ((S1.ext e2 c2).ext e3 c3).hk, (p1.ext e2).ext e3, h3.mono (fun d s' (q : PostE U ow isL H Q d s') => q.ext ((e1.trans e2).trans e3)) fun _ _ _ => trivial⟩
theorem RpL.reverse : ∀ {ds : List D} {xs : List V}, RpL U ow H ds xs → RpL U ow H ds.reverse xs.reverse
  | [], _, h => by
    unfold RpL at h
    subst h
    exact RpL.nil
  | d :: ds, _, h => by
    unfold RpL at h
    obtain ⟨x, ys, e, r, rs⟩ := h
    subst e
    rw [List.reverse_cons, List.reverse_cons]
    exact (RpL.reverse rs).append (RpL.cons r RpL.nil)
theorem isM1_eq {st : Expr} (h : isM1 st = true) : ∃ k p1 p2, st = .UnaryOp .USub (.Constant (.int 1) k p1) p2 := by
  unfold isM1 at h
  split at h
  · exact ⟨_, _, _, rfl⟩
  · cases h
theorem pe_rev2 (g : Good U k Γ X W) {a st : Expr} {pos p3 : Pos} {fa : St → M D} (ha : PE X a (tOfP U W fa)) (hm : isM1 st = true) :
    PE X (.Subscript a (.Slice none none (some st) p3) pos) (tOf U W (fun σ => do let x ← fa σ; revD x) isL) := by
  obtain ⟨j, p1, p2, rfl⟩ := isM1_eq hm
  refine PE.imp (pe_revA ha) fun σ H Q h => ?_
  obtain ⟨H0, ow0, ow, σd, s, S, w⟩ := h
  refine tOfP.step S w fun d1 v1 H1 s1 e1 S1 p1 w1 => ?_
  cases d1 with
  | list ds =>
    obtain ⟨a, xs, rfl, h1, r⟩ := p1.list
    have q : PostE U ow isL H Q (.list ds.reverse) s1 := w1.of_pure
    refine ⟨a, xs, rfl, .inl ⟨L2.SqL.of h1, fun p np => ?_⟩⟩
    have hc := S1.nocap np
    exact q (.ref p) _ (e1.trans (Ext.new np)) (S1.cap.new np) (Rp.newL r.reverse np hc (S1.noow np)) fun _ => RF.new r.reverse (e1.none hc np) np hc
  | tuple ds =>
    obtain ⟨a, xs, rfl, h1, r⟩ := p1.tuple
    have q : PostE U ow isL H Q (.tuple ds.reverse) s1 := w1.of_pure
    refine ⟨a, xs, rfl, .inr ⟨by rw [g.K]; exact h1, fun p np => ?_⟩⟩
    have hc := S1.nocap np
    exact q (.ref p) _ (e1.trans (Ext.new np)) (S1.cap.new np) (Rp.newT r.reverse np hc (S1.noow np)) fun z => nomatch z
  | _ => exact (show Wp (fail : M D) s1 _ _ from w1).of_fail.elim

/-! ### isinstance -/
theorem tyN_ok (hK : X.K = U.K) {d : D} {v : V} {n : String} (h : tyN d = some n) (p : Pk U ow H d v) : TyX X.K H v (.type n) := by
  cases d with
  | none => cases h; rw [p.none]; exact .base .non
  | bool b => cases h; rw [p.bool]; exact .base (.bl b)
  | int b => cases h; rw [p.int]; exact .base (.int b)
  | str b => cases h; rw [p.str]; exact .base (.str b)
  | list ds => cases h; obtain ⟨a, xs, e, h1, _⟩ := p.list; rw [e]; exact .base (.lst h1)
  | tuple ds =>
    cases h
    rcases p with p | ⟨_, e⟩
    · unfold Rp at p
      obtain ⟨a, xs, e, n, _⟩ := p
      rw [e]
      rcases n with n | ⟨o, its, m, hk, hc, _⟩
      · exact .base (.tup n.1)
      · exact .kTuple (by rw [hK]; exact hk) hc
    · cases e.soft
  | dict kvs => cases h
theorem kit_all : ∀ a ∈ ["NoneType", "bool", "int", "str", "tuple", "list"], ∀ b ∈ ["int", "bool", "str", "tuple", "list"], kitB a b = some (a == b || (a == "bool" && b == "int")) := by decide +kernel
theorem tyN_mem {d : D} {n : String} (h : tyN d = some n) : n ∈ ["NoneType", "bool", "int", "str", "tuple", "list"] := by
  cases d <;> cases h <;> decide
theorem isiT_ok {t : Str} {n : String} (h : isiT t = some n) : bootBuiltins t = some (.type n) ∧ n ∈ ["int", "bool", "str", "tuple", "list"] := by
  unfold isiT at h
  by_cases h1 : t = ("int" : Str)
  · subst h1; rw [if_pos rfl] at h; cases h; exact ⟨PyProof.Rows.boot_int, by decide⟩
  rw [if_neg h1] at h
  by_cases h1 : t = ("bool" : Str)
  · subst h1; rw [if_pos rfl] at h; cases h; exact ⟨PyProof.Rows.boot_bool, by decide⟩
  rw [if_neg h1] at h
  by_cases h1 : t = ("str" : Str)
  · subst h1; rw [if_pos rfl] at h; cases h; exact ⟨PyProof.Rows.boot_str, by decide⟩
  rw [if_neg h1] at h
  by_cases h1 : t = ("tuple" : Str)
  · subst h1; rw [if_pos rfl] at h; cases h; exact ⟨PyProof.Rows.boot_tuple, by decide⟩
  rw [if_neg h1] at h
  by_cases h1 : t = ("list" : Str)
  · subst h1; rw [if_pos rfl] at h; cases h; exact ⟨PyProof.Rows.boot_list, by decide⟩
  rw [if_neg h1] at h
  cases h
theorem gname_ok (g : Good U k Γ X W) (go : GlOk U k G) {x : Str} (h : okName x = true) (h2 : kindG Γ.sc x = true) (h3 : G.bare x = true) : L2.Gl X x ∧ X.mg x = none ∧ (x == ("__debug__" : Str)) = false ∧ x ≠ "__name__" := by
  obtain ⟨a, b, c⟩ := okName_d h
  exact ⟨kindG_gl g h2, by rw [g.mg]; exact go.bare x h3, a, c⟩
theorem bare_isi : bootBuiltins "isinstance" = some (.builtin "isinstance") := PyProof.Rows.boot_isinstance
theorem pe_isi2 (g : Good U k Γ X W) (go : GlOk U k G) {a : Expr} {t : Str} {p p2 pos : Pos} {fa : St → M D} (ha : PE X a (tOfP U W fa)) (hn : notStar a = true) (h1 : L2.Gl X "isinstance") (h2 : X.mg "isinstance" = none)
    (hg : gname G Γ t = true) (ht : (isiT t).isSome = true) :
    PE X (.Call (.Name "isinstance" p) [a, .Name t p2] [] pos) (tOf U W (fun σ => do
      let x ← fa σ
      match isi x t with
        | some b => pure (.bool b)
        | none => fail) fun _ => false) := by
  unfold gname at hg
  simp only [Bool.and_eq_true] at hg
  obtain ⟨k1, k2, k3, k4⟩ := gname_ok g go hg.1.1 hg.1.2 hg.2
  cases hn' : isiT t with
  | none => rw [hn'] at ht; cases ht
  | some n =>
    obtain ⟨hb, hm⟩ := isiT_ok hn'
    have pt : PE X (.Name t p2) (tC (.ty n)) := pe_bltn k1 k2 hb rfl k4 k3
    refine PE.imp (pe_callB call_isi h1 h2 bare_isi (pa_cons ha (pa_cons pt pa_nil rfl) (starEach_ns hn)) (by decide) (by decide) (starEach_ns hn) (by rfl)) fun σ H Q h => ?_
    obtain ⟨H0, ow0, ow, σd, s, S, w⟩ := h
    show tOfP U W fa σ H _
    refine tOfP.step S w fun d1 v1 H1 s1 e1 S1 p1 w1 => ?_
    unfold isi at w1
    rw [hn'] at w1
    cases hy : tyN d1 with
    | none => rw [hy] at w1; exact w1.of_fail.elim
    | some m =>
      rw [hy] at w1
      exact ⟨v1, .ty n, .type m, .type n, _, rfl, .ty n, tyN_ok g.K hy p1, kit_ty (kit_all m (tyN_mem hy) n hm), postV S1.hk (PostE.ext w1.of_pure e1) Rp.bool rfl⟩
theorem isi_both {d : D} {v : V} {t n : Str} {m : String} {b : Bool} {nn : String} (hn : isiT t = some nn) (hy : tyN d = some m) (h : isi d t = some b) : PySem.W.kitOne X.K (.type m) (.type nn) = some b := by
  unfold isi at h
  rw [hn, hy] at h
  cases h
  exact kit_ty (kit_all m (tyN_mem hy) nn (isiT_ok hn).2)
theorem pe_isiT2 (g : Good U k Γ X W) (go : GlOk U k G) {a : Expr} {t t2 : Str} {p p2 p3 p4 pos : Pos} {j : Nat} {fa : St → M D} (ha : PE X a (tOfP U W fa)) (hn : notStar a = true) (h1 : L2.Gl X "isinstance") (h2 : X.mg "isinstance" = none)
    (hg : gname G Γ t = true) (hg2 : gname G Γ t2 = true) (ht : (isiT t).isSome = true) (ht2 : (isiT t2).isSome = true) :
    PE X (.Call (.Name "isinstance" p) [a, .Tuple [.Name t p2, .Name t2 p3] j p4] [] pos) (tOf U W (fun σ => do
      let x ← fa σ
      match isi x t, isi x t2 with
        | some b, some c => pure (.bool (b || c))
        | _, _ => fail) fun _ => false) := by
  unfold gname at hg hg2
  simp only [Bool.and_eq_true] at hg hg2
  obtain ⟨k1, k2, k3, k4⟩ := gname_ok g go hg.1.1 hg.1.2 hg.2
  obtain ⟨l1, l2, l3, l4⟩ := gname_ok g go hg2.1.1 hg2.1.2 hg2.2
  obtain ⟨n, hn'⟩ := Option.isSome_iff_exists.mp ht
  obtain ⟨n2, hn2'⟩ := Option.isSome_iff_exists.mp ht2
  have pt : PE X (.Name t p2) (tC (.ty n)) := pe_bltn k1 k2 (isiT_ok hn').1 rfl k4 k3
  have pt2 : PE X (.Name t2 p3) (tC (.ty n2)) := pe_bltn l1 l2 (isiT_ok hn2').1 rfl l4 l3
  refine PE.imp (pe_callB call_isiT h1 h2 bare_isi (pa_cons ha (pa_cons (pe_tup (pa_cons pt (pa_cons pt2 pa_nil rfl) rfl)) pa_nil rfl) (starEach_ns hn)) (by decide) (by decide) (starEach_ns hn) (by rfl)) fun σ H Q h => ?_
  obtain ⟨H0, ow0, ow, σd, s, S, w⟩ := h
  show tOfP U W fa σ H _
  refine tOfP.step S w fun d1 v1 H1 s1 e1 S1 p1 w1 => ?_
  refine ⟨by show 2 ≤ sizeLine; rw [sizeLine_eq]; decide, fun q np => ?_⟩
  have ex := Ext.new (U := U) (o := .tup [.ty n, .ty n2]) np
  cases hb : isi d1 t with
  | none => rw [hb] at w1; exact w1.of_fail.elim
  | some b =>
    cases hb2 : isi d1 t2 with
    | none => rw [hb, hb2] at w1; exact w1.of_fail.elim
    | some c =>
      rw [hb, hb2] at w1
      cases hy : tyN d1 with
      | none => unfold isi at hb; rw [hy] at hb; cases hb
      | some m =>
        have z1 := isi_both (X := X) (v := v1) (n := t) hn' hy hb
        have z2 := isi_both (X := X) (v := v1) (n := t) hn2' hy hb2
        refine ⟨v1, q, [.ty n, .ty n2], .type m, [.type n, .type n2], b || c, rfl, upd_same, .cons (.ty n) (.cons (.ty n2) .nil), tyN_ok g.K hy (p1.ext ex), ?_, ?_⟩
        · unfold PySem.W.kitAny
          rw [z1]
          cases b with
          | true => rfl
          | false =>
            show PySem.W.kitAny X.K (.type m) [.type n2] = _
            unfold PySem.W.kitAny
            rw [z2]
            cases c <;> rfl
        · exact w1.of_pure _ _ (e1.trans ex) (S1.cap.new np) Rp.bool fun z => by cases z
end
end Py

set_option Elab.async false
set_option linter.all false
set_option maxRecDepth 100000
set_option maxHeartbeats 1000000
namespace Py
open PySem PySem.Spec PyProof.Rows L2
section
variable {U : Wd} {k : Nat} {Γ : Cxt} {X : Cx} {W : WX} {G : Gs} {ow : Ow} {H : Hp} {s : DS}
theorem boot_sum : bootBuiltins "sum" = some (.builtin "sum") := by decide +kernel
theorem boot_max : bootBuiltins "max" = some (.builtin "max") := by decide +kernel
theorem boot_min : bootBuiltins "min" = some (.builtin "min") := by decide +kernel
theorem boot_all : bootBuiltins "all" = some (.builtin "all") := by decide +kernel
theorem boot_any : bootBuiltins "any" = some (.builtin "any") := by decide +kernel
theorem boot_sorted : bootBuiltins "sorted" = some (.builtin "sorted") := by decide +kernel
theorem biN_ok {f : Str} (h : biN f = true) : (∃ id, bootBuiltins f = some (.builtin id)) ∨ (∃ T, bootBuiltins f = some (.type T)) := by
  have h := of_decide_eq_true h
  simp only [List.mem_cons, List.not_mem_nil, or_false] at h
  rcases h with h | h | h | h | h | h | h | h | h | h | h <;> subst h
  · exact .inl ⟨_, PySem.boot_len⟩
  · exact .inl ⟨_, boot_sum⟩
  · exact .inl ⟨_, PyProof.Rows.boot_abs⟩
  · exact .inl ⟨_, boot_max⟩
  · exact .inl ⟨_, boot_min⟩
  · exact .inr ⟨_, PyProof.Rows.boot_int⟩
  · exact .inr ⟨_, PyProof.Rows.boot_list⟩
  · exact .inr ⟨_, PyProof.Rows.boot_tuple⟩
  · exact .inl ⟨_, boot_all⟩
  · exact .inl ⟨_, boot_any⟩
  · exact .inl ⟨_, boot_sorted⟩
theorem bi_nil {f : Str} : bi f [] = fail := by
  unfold bi
  dsimp only
  simp only [ite_self]
theorem pe_bi2 (g : Good U k Γ X W) {f : Str} {args : List Expr} {p pos : Pos} {fa : St → M (List D)} (ha : PA X args (tOfPA U W fa)) (hn : noStars args = true) (h1 : L2.Gl X f) (h2 : X.mg f = none) (h3 : (f == ("__debug__" : Str)) = false) (h4 : f ≠ "__name__")
    (hb : biN f = true) (he : args = [] → ∀ σ, fa σ = pure []) :
    PE X (.Call (.Name f p) args [] pos) (tOf U W (fun σ => do let xs ← fa σ; bi f xs) fun d => frB f && isL d) := by
  cases args with
  | nil =>
    refine ⟨fun pins s' σ H Q I h => ?_⟩
    obtain ⟨H0, ow0, ow, σd, s, S, w⟩ := h
    have w : Wp (do let xs ← fa σd; bi f xs) s _ _ := w
    rw [he rfl] at w
    have w := w.of_bind.of_pure
    rw [bi_nil] at w
    exact w.of_fail.elim
  | cons a as =>
    have hs : starEach (a :: as) X.env = (false, eval a X.env) :: starEach as X.env := starEach_ns (noStars_mem hn a List.mem_cons_self)
    have hp : (backTo pos (starEach as X.env)).any (·.1) = false := plain_star fun e he => noStars_mem hn e (List.mem_cons_of_mem _ he)
    have fin : ∀ σ H Q, tOf U W (fun σ => do let xs ← fa σ; bi f xs) (fun d => frB f && isL d) σ H Q → tCB (rBi U f) (tOfPA U W fa) σ H Q := fun σ H Q h => by
      obtain ⟨H0, ow0, ow, σd, s, S, w⟩ := h
      show tOfPA U W fa σ H _
      refine tOfPA.step S w fun ds vs H1 s1 e1 S1 p1 w1 => ?_
      exact ⟨ow, s1, ds, S1.hk, p1, w1.mono (fun d s' (q : PostE U ow _ H Q d s') => q.ext e1) fun _ _ _ => trivial⟩
    have hu := g.hu
    rcases biN_ok hb with ⟨id, hv⟩ | ⟨T, hv⟩
    · exact PE.imp (pe_callB (cr_bi g.K g.calm (by omega) hv) h1 h2 hv ha h4 h3 hs hp) fin
    · exact PE.imp (pe_callTy (cr_bi g.K g.calm (by omega) hv) h1 h2 hv ha h4 h3 hs hp) fin
/-! ### defs -/
theorem flat_ow {ow' : Ow} (S : Hk U ow H s) {H' : Hp} (e : Ext U H H') (h0 : ∀ a, ow' a = none) : (∀ (d : D) (v : V), flat d = true → Rp U ow' H' d v → Rp U ow H' d v) ∧ (∀ (ds : List D) (vs : List V), flats ds = true → RpL U ow' H' ds vs → RpL U ow H' ds vs) := by
  have hd : ∀ (a : Addr) (xs : List V), a ≠ U.cap → H' a = some (.tup xs) → ow a = none := fun a xs hc ha => by
    cases ho : ow a with
    | none => rfl
    | some i =>
      obtain ⟨u, hu, ht⟩ := S.trk a (by rw [ho]; intro z; cases z)
      have := e a u hc hu
      rw [ha] at this
      exact absurd (Option.some.inj this).symm (ht xs)
  have key : ∀ n, (∀ (d : D) (v : V), sizeOf d < n → flat d = true → Rp U ow' H' d v → Rp U ow H' d v) ∧ (∀ (ds : List D) (vs : List V), sizeOf ds < n → flats ds = true → RpL U ow' H' ds vs → RpL U ow H' ds vs) := by
    intro n
    induction n with
    | zero => exact ⟨fun d v h => absurd h (by omega), fun d v h => absurd h (by omega)⟩
    | succ n ih =>
      constructor
      · intro d v hn hf h
        cases d with
        | list ds => simp [flat] at hf
        | dict ds => simp [flat] at hf
        | tuple ds =>
          have hf : flats ds = true := by simpa [flat] using hf
          unfold Rp at h ⊢
          obtain ⟨a, xs, e1, nd, r⟩ := h
          refine ⟨a, xs, e1, nd.imp (fun nd => ⟨nd.1, hd a xs nd.2.2 nd.1, nd.2.2⟩) id, ih.2 ds xs ?_ hf r⟩
          simp at hn; omega
        | _ => unfold Rp at h ⊢; exact h
      · intro ds vs hn hf h
        cases ds with
        | nil => unfold RpL at h ⊢; exact h
        | cons d ds =>
          have hf : flat d = true ∧ flats ds = true := by simpa [flats] using hf
          unfold RpL at h ⊢
          obtain ⟨x, ys, e1, h1, h2⟩ := h
          simp at hn
          exact ⟨x, ys, e1, ih.1 d x (by omega) hf.1 h1, ih.2 ds ys (by omega) hf.2 h2⟩
  exact ⟨fun d v hf h => (key (sizeOf d + 1)).1 d v (by omega) hf h, fun ds vs hf h => (key (sizeOf ds + 1)).2 ds vs (by omega) hf h⟩
theorem Pk.free {d : D} {v : V} (h : Pk U ow H d v) : Rp U (fun _ => Option.none) H d v := by
  rcases h with h | ⟨i, a, u, e2, h1, h2, h3, r⟩
  · exact Rp.mono (fun a u hc ho e => ⟨e, rfl⟩) d v h
  · rcases r with ⟨ds, xs, e1, e3, r⟩ | ⟨ds, xs, e1, e3, r⟩
    · subst e1 e2 e3
      unfold Rp
      exact ⟨a, xs, rfl, ⟨h1, rfl, h3⟩, RpL.mono (fun a u hc ho e => ⟨e, rfl⟩) ds xs r⟩
    · subst e1 e2 e3
      unfold Rp
      exact .inr ⟨a, xs, rfl, .inl ⟨h1, rfl, h3⟩, RpD.mono (fun a u hc ho e => ⟨e, rfl⟩) ds xs r⟩
theorem PkL.free : ∀ {ds : List D} {vs : List V}, PkL U ow H ds vs → RpL U (fun _ => none) H ds vs
  | [], _, h => by unfold PkL at h; unfold RpL; exact h
  | d :: ds, _, h => by
    unfold PkL at h
    obtain ⟨x, ys, e, p, r⟩ := h
    unfold RpL
    exact ⟨x, ys, e, p.free, PkL.free r⟩
theorem quiet_wp {α : Type} {m : M α} {Q : α → DS → Prop} {E : Exc → DS → Prop} (w : Wp (quiet m) s Q E) : Wp m s Q fun _ _ => False := by
  have e : quiet m s = (match m s with | Res.ok a s' => Res.ok a s' | Res.exc _ _ => Res.fail | Res.fail => Res.fail) := by
    show (match m s with | Res.ok a s' => Res.ok a s' | _ => Res.fail) = _
    cases m s <;> rfl
  unfold Wp at w ⊢
  rw [e] at w
  cases h : m s with
  | ok a s' => rw [h] at w; exact w
  | exc x s' => rw [h] at w; exact w
  | fail => rw [h] at w; exact w
/-- f(..) -/
theorem pe_defG (g : Good U k Γ X W) (gf : FnsOk U k G) {f : Str} {fg : Flg} {args : List Expr} {p pos : Pos} (hf : G.fns f = some fg) (hn : noStars args = true) (h1 : L2.Gl X f) (h3 : (f == ("__debug__" : Str)) = false) {t : TA} (ha : PA X args t) {tt : TE}
    (ht : ∀ (σ : L2.St) (H : Hp) (Q : VK) (n : Nat), (∀ ds s, ds.length ≠ n → G.call f ds s = .fail) → tt σ H Q → (if args = [] then (fun σ H R => R [] H) else t) σ H fun vs H1 => spF U G.call fg f n vs H1 Q (if args = [] then E0 else fun cls d H => W cls d σ H)) :
    PE X (.Call (.Name f p) args [] pos) tt := by
  obtain ⟨fa, fd, ps, hm, hk, hb, F, bad⟩ := gf.fns f fg hf
  have F' : FnOk X.prog X.w X.K X.mg X.base (L2.CX X.prog X.w) k fa fd ps (spF U G.call fg f ps.length) := by rw [g.P, g.w, g.K, g.mg, g.base]; exact F
  have hm' : X.mg f = some (.ref fa) := by rw [g.mg]; exact hm
  have hk' : PySem.W.keepIn X.K (.ref fa) = true := by rw [g.K]; exact hk
  have hb' : Binds X.K fd ps [] := by rw [g.K]; exact hb
  cases args with
  | nil =>
    refine PE.imp (pe_call0 (E := E0) F' g.room h1 hm' hk' hb' .nil L2.passL h3) fun σ H Q h => ?_
    have := ht σ H Q ps.length bad h
    simp only [if_true] at this
    exact this
  | cons a as =>
    have hs : starEach (a :: as) X.env = (false, eval a X.env) :: starEach as X.env := starEach_ns (noStars_mem hn a List.mem_cons_self)
    have hp : (backTo pos (starEach as X.env)).any (·.1) = false := plain_star fun e he => noStars_mem hn e (List.mem_cons_of_mem _ he)
    refine PE.imp (pe_callS (E := WE W) F' g.room h1 hm' hk' hb' (fun σ => passAt g.tk σ) ha h3 hs hp) fun σ H Q h => ?_
    have := ht σ H Q ps.length bad h
    rw [if_neg (by simp), if_neg (by simp)] at this
    exact this
theorem callQ_wp {args : List Expr} {f : Str} {xs : List D} {Q : D → DS → Prop} {E : Exc → DS → Prop} (w : Wp (callQ G f args xs) s Q E) : Wp (G.call f xs) s Q (if args = [] then (fun _ _ => False) else E) := by
  cases args with
  | nil => exact quiet_wp w
  | cons a as => rw [if_neg (by simp)]; exact w
theorem len_call {n : Nat} {f : Str} {xs : List D} {Q : D → DS → Prop} {E : Exc → DS → Prop} (bad : ∀ ds s, ds.length ≠ n → G.call f ds s = .fail) (w : Wp (G.call f xs) s Q E) : xs.length = n := by
  by_cases h : xs.length = n
  · exact h
  · unfold Wp at w
    rw [bad _ _ h] at w
    exact w.elim
theorem PkL.length : ∀ {ds : List D} {vs : List V}, PkL U ow H ds vs → ds.length = vs.length
  | [], _, h => by unfold PkL at h; rw [h]; rfl
  | d :: ds, _, h => by
    unfold PkL at h
    obtain ⟨x, ys, e, p, r⟩ := h
    rw [e, List.length_cons, List.length_cons, PkL.length r]
theorem xpost {args : List Expr} {σ : L2.St} {H1 : Hp} (e1 : Ext U H H1) {x : Exc} {s' : DS} (q : (if args = [] then (fun _ _ => False) else PostX U W σ H) x s') : PostXE U (if args = [] then E0 else fun cls d H => W cls d σ H) H1 x s' := by
  cases args with
  | nil => exact q.elim
  | cons a as =>
    rw [if_neg (by simp)] at q ⊢
    exact fun cls od H' e' => q cls od H' (e1.trans e')
/-- what is handed over is shared -/
theorem pe_defS (g : Good U k Γ X W) (gf : FnsOk U k G) {f : Str} {fg : Flg} {args : List Expr} {p pos : Pos} (hf : G.fns f = some fg) (hn : noStars args = true) (h1 : L2.Gl X f) (h3 : (f == ("__debug__" : Str)) = false) {fa : St → M (List D)} (ha : PA X args (tOfA U W fa))
    (h0 : args = [] → ∀ σ, fa σ = pure []) :
    PE X (.Call (.Name f p) args [] pos) (tOf U W (fun σ => do let xs ← fa σ; callQ G f args xs) fun d => fg.fr && isL d) := by
  refine pe_defG g gf hf hn h1 h3 ha fun σ H Q n bad h => ?_
  obtain ⟨H0, ow0, ow, σd, s, S, w⟩ := h
  have w : Wp (do let xs ← fa σd; callQ G f args xs) s _ _ := w
  have fin : ∀ ds vs H1 s1, Ext U H H1 → SR U H0 ow0 ow σ H1 σd s1 → RpL U ow H1 ds vs → Wp (callQ G f args ds) s1 (PostE U ow (fun d => fg.fr && isL d) H Q) (PostX U W σ H) → spF U G.call fg f n vs H1 Q (if args = [] then E0 else fun cls d H => W cls d σ H) := by
    intro ds vs H1 s1 e1 S1 r w1
    have w2 := callQ_wp w1
    have hl := len_call bad w2
    exact ⟨by rw [← r.length]; exact hl, ow, s1, ds, S1.hk, S1.cello, r, w2.mono (fun d s' (q : PostE U ow _ H Q d s') => q.ext e1) fun x s' q => xpost e1 q⟩
  by_cases hz : args = []
  · rw [if_pos hz]
    rw [h0 hz] at w
    exact fin [] [] H s Ext.refl S RpL.nil w.of_bind.of_pure
  · rw [if_neg hz]
    exact tOfA.step S w fun ds vs H1 s1 e1 S1 p1 w1 => fin ds vs H1 s1 e1 S1 p1 w1
/-- what is handed over is peeked at; flat data come back -/
theorem pe_defP (g : Good U k Γ X W) (gf : FnsOk U k G) {f : Str} {fg : Flg} {args : List Expr} {p pos : Pos} (hf : G.fns f = some fg) (hn : noStars args = true) (h1 : L2.Gl X f) (h3 : (f == ("__debug__" : Str)) = false) {fa : St → M (List D)} (ha : PA X args (tOfPA U W fa))
    (h0 : args = [] → ∀ σ, fa σ = pure []) :
    PE X (.Call (.Name f p) args [] pos) (tOf U W (fun σ => do let xs ← fa σ; let d ← callQ G f args xs; if flat d = true then pure d else fail) fun _ => false) := by
  refine pe_defG g gf hf hn h1 h3 ha fun σ H Q n bad h => ?_
  obtain ⟨H0, ow0, ow, σd, s, S, w⟩ := h
  have w : Wp (do let xs ← fa σd; let d ← callQ G f args xs; if flat d = true then pure d else fail) s _ _ := w
  have fin : ∀ ds vs H1 s1, Ext U H H1 → SR U H0 ow0 ow σ H1 σd s1 → PkL U ow H1 ds vs → Wp (do let d ← callQ G f args ds; if flat d = true then pure d else fail) s1 (PostE U ow (fun _ => false) H Q) (PostX U W σ H) → spF U G.call fg f n vs H1 Q (if args = [] then E0 else fun cls d H => W cls d σ H) := by
    intro ds vs H1 s1 e1 S1 r w1
    have w2 := callQ_wp w1.of_bind
    have hl := len_call bad w2
    refine ⟨by rw [← r.length]; exact hl, fun _ => none, s1, ds, ⟨fun a h => absurd rfl h, rfl, S1.cap⟩, rfl, r.free, w2.mono (fun d s' q => ?_) fun x s' q => xpost e1 q⟩
    obtain ⟨hfl, q⟩ := Wp.of_guard q
    have q := q.of_pure
    intro v H' e' c' r' _
    exact q v H' (e1.trans e') c' ((flat_ow S1.hk e' (fun _ => rfl)).1 d v hfl r') fun z => by cases z
  by_cases hz : args = []
  · rw [if_pos hz]
    rw [h0 hz] at w
    exact fin [] [] H s Ext.refl S (by unfold PkL; rfl) w.of_bind.of_pure
  · rw [if_neg hz]
    exact tOfPA.step S w fun ds vs H1 s1 e1 S1 p1 w1 => fin ds vs H1 s1 e1 S1 p1 w1
end
end Py

set_option Elab.async false
set_option linter.all false
set_option maxRecDepth 100000
set_option maxHeartbeats 1000000
namespace Py
open PySem PySem.Spec PyProof.Rows L2
section
variable {U : Wd} {k : Nat} {Γ : Cxt} {X : Cx} {W : WX} {G : Gs} {ow : Ow} {H : Hp} {s : DS}
theorem base_plain {o : Expr} (h : plainO o = true) {m : Str} {env : Env} : attributeBase o m env (eval o env) = eval o env := by
  cases o with
  | Call _ _ _ _ => cases h
  | _ => rfl
theorem RpL.strs : ∀ ys : List Str, RpL U ow H (ys.map PyData.str) (ys.map V.str)
  | [] => RpL.nil
  | y :: ys => RpL.cons Rp.str (RpL.strs ys)
theorem strs_of : ∀ {ds : List D} {ys : List Str}, strsOf ds = some ys → ds = ys.map .str
  | [], ys, h => by unfold strsOf at h; cases h; rfl
  | d :: ds, ys, h => by
    cases d with
    | str x =>
      unfold strsOf at h
      cases e : strsOf ds with
      | none => rw [e] at h; cases h
      | some zs =>
        rw [e] at h
        cases h
        rw [strs_of e]
        rfl
    | _ => unfold strsOf at h; cases h
theorem RpL.to_strs : ∀ {ys : List Str} {xs : List V}, RpL U ow H (ys.map PyData.str) xs → xs = ys.map V.str
  | [], xs, h => by
    have := h.length
    cases xs with
    | nil => rfl
    | cons _ _ => simp at this
  | y :: ys, xs, h => by
    cases xs with
    | nil => have := h.length; simp at this
    | cons x xs =>
      obtain ⟨h1, h2⟩ := h.of_cons
      unfold Rp at h1
      rw [h1, RpL.to_strs h2]
      rfl
theorem pe_meth1 (g : Good U k Γ X W) {o e : Expr} {m : Str} {apos pos : Pos} {fo fe : St → M D} (ho : PE X o (tOfP U W fo)) (he : PE X e (tOfP U W fe)) (hn : notStar e = true) (hp : plainO o = true) (hl : (apos.endLine == pos.line) = true) (hm : methN m = true) :
    PE X (.Call (.Attribute o m apos) [e] [] pos) (tOf U W (fun σ => do let x ← fo σ; methD x m (fe σ)) fun _ => false) := by
  have hs : starEach [e] X.env = [(false, eval e X.env)] := starEach_ns hn
  have main : ∀ (r : V → List V → Hp → VK → Prop), (∀ ow a dy y H Q s', Hk U ow H s' → Pk U ow H dy y → Wp (meth1 a m dy) s' (PostE U ow (fun _ => false) H Q) (fun _ _ => True) → r (.str a) [y] H Q) →
      ∀ σ H Q, tOf U W (fun σ => do let x ← fo σ; methD x m (fe σ)) (fun _ => false) σ H Q → tM1 r (tOfP U W fo) (tOfP U W fe) σ H Q := by
    intro r hr σ H Q h
    obtain ⟨H0, ow0, ow, σd, s, S, w⟩ := h
    refine tOfP.step S w fun d1 v1 H1 s1 e1 S1 p1 w1 => ?_
    unfold methD at w1
    split at w1
    · rename_i a
      have hv := p1.str
      refine ⟨⟨a, hv⟩, ?_⟩
      refine tOfP.step S1 (w1.mono (fun d s' (q : PostE U ow _ H Q d s') => q.ext e1) fun x s' (q : PostX U W σ H x s') => q.ext e1) fun d2 v2 H2 s2 e2 S2 p2 w2 => ?_
      rw [hv]
      exact hr ow a d2 v2 H2 Q s2 S2.hk p2 (w2.mono (fun d s' (q : PostE U ow _ H1 Q d s') => q.ext e2) fun _ _ _ => trivial)
    · exact w1.of_fail.elim
  by_cases h1 : m = ("split" : Str)
  · subst h1
    refine PE.imp (pe_m1 F.slot_str_split F.type_str_split mt_split ho he hs (base_plain hp) hl) (main _ fun ow a dy y H Q s' hk py w => ?_)
    unfold meth1 at w
    rw [if_pos rfl] at w
    split at w
    · obtain ⟨⟨g1, g2⟩, w⟩ := w.of_guard
      refine ⟨_, _, rfl, by rw [py.str], g1, by rw [← sline_eq]; exact g2, fun p np => ?_⟩
      exact hk.newL _ (RpL.strs _) w.of_pure np
    · exact w.of_fail.elim
  · by_cases h2 : m = ("partition" : Str)
    · subst h2
      refine PE.imp (pe_m1 F.slot_str_partition F.type_str_partition mt_partition ho he hs (base_plain hp) hl) (main _ fun ow a dy y H Q s' hk py w => ?_)
      unfold meth1 at w
      rw [if_neg (by decide), if_pos rfl] at w
      split at w
      · obtain ⟨⟨g1, g2⟩, w⟩ := w.of_guard
        refine ⟨_, _, rfl, by rw [py.str], g1, by rw [← sline_eq]; exact g2, fun p np => ?_⟩
        exact hk.newT (fun _ => false) (ds := [.str _, .str _, .str _]) (RpL.strs [_, _, _]) w.of_pure rfl np
      · exact w.of_fail.elim
    · by_cases h3 : m = ("join" : Str)
      · subst h3
        refine PE.imp (pe_m1 F.slot_str_join F.type_str_join mt_join ho he hs (base_plain hp) hl) (main _ fun ow a dy y H Q s' hk py w => ?_)
        unfold meth1 at w
        rw [if_neg (by decide), if_neg (by decide), if_pos rfl] at w
        split at w
        · rename_i ys hys
          obtain ⟨g1, w⟩ := w.of_guard
          cases dy with
          | list ds =>
            have hd := strs_of (show strsOf ds = some ys from hys)
            subst hd
            obtain ⟨p, xs, rfl, hp, hr⟩ := py.list
            have := hr.to_strs
            subst this
            exact ⟨_, _, ys, rfl, rfl, .inl (SqL.of hp), g1, postV hk w.of_pure Rp.str rfl⟩
          | tuple ds =>
            have hd := strs_of (show strsOf ds = some ys from hys)
            subst hd
            obtain ⟨p, xs, rfl, hp, hr⟩ := py.tuple
            have := hr.to_strs
            subst this
            exact ⟨_, _, ys, rfl, rfl, .inr (by rw [g.K]; exact hp), g1, postV hk w.of_pure Rp.str rfl⟩
          | _ => cases hys
        · exact w.of_fail.elim
      · exact absurd (of_decide_eq_true hm) (by simp [h1, h2, h3])
end
end Py

set_option Elab.async false
set_option linter.all false
set_option maxRecDepth 100000
set_option maxHeartbeats 1000000
namespace Py
open PySem PySem.Spec PyProof.Rows L2
set_option maxHeartbeats 1000000 in
theorem meets_enumerate_newB1 {v : Value} {o : Obj} {H : Heap → Prop} (B : Begins v o H) :
    Meets (Builtin.«enumerate.__new__» ⟨[.type "enumerate", v], []⟩) (fun _ R s => H s.heap ∧
      R (.ok (.ret (.ref (s.heap.push o).objs.size))) { s with heap := (s.heap.push o).push { cls := .type "enumerate", data := .fields #[.none, .bool false, .ref s.heap.objs.size, rawInt 0, .none, .none] } }) :=
  .of_wp fun prog w A R s h => by
    obtain ⟨hp, g, d, tk, os⟩ := s; obtain ⟨h1, h⟩ := h
    have hsub := sub_enumerate
    have q1 : ∀ {A' : Around} {E : Value → Shared → Prop} {Q : Value → Shared → Prop}, Q (.ref hp.objs.size) ⟨hp.push o, g, d, tk, os⟩ → wpAny (model prog w) A' (pyIter v) Q E ⟨hp, g, d, tk, os⟩ :=
      fun q => B.iter prog w _ _ ⟨hp, g, d, tk, os⟩ _ h1 q
    wp_walk using q1
    refine wpAny_stack_any fun st => wpAny_pure ?_
    split
    · rename_i c _ _ _ _ _
      cases (c == Value.type "enumerate")
      · wp_walk using q1
        exact ⟨_, rfl, h⟩
      · wp_walk using q1
        exact ⟨_, rfl, h⟩
    · wp_walk using q1
      exact ⟨_, rfl, h⟩
theorem enum_begins1 {prog : Program} {w : World} {A : Around} {E : Value → Shared → Prop} {s : Shared} {v : Value} {o : Obj} {H : Heap → Prop} {Q : Value → Shared → Prop} (B : Begins v o H) (h1 : H s.heap)
    (h : ∀ h', IsEnum h' (s.heap.objs.size + 1) s.heap.objs.size 0 .none → h'.get? s.heap.objs.size = some o → h'.objs.size = s.heap.objs.size + 2 →
      (∀ b o, s.heap.get? b = some o → h'.get? b = some o) → Q (.ref (s.heap.objs.size + 1)) { s with heap := h' }) :
    wpAny (model prog w) A (call (.type "enumerate") [v]) Q E s := by
  refine callType_new F.called_enumerate (by decide) (F.typeCall_enumerate_1 _) (F.newCall_enumerate_1 _) (fun obj => F.args_object_init_2 obj _) F.entry_enumerate_new
    (meets_enumerate_newB1 B) ⟨h1, ?_⟩
  have hz : (s.heap.push o).objs.size = s.heap.objs.size + 1 := Heap.size_push ..
  show _ ∧ _
  rw [hz]
  have he : IsEnum ((s.heap.push o).push { cls := .type "enumerate", data := .fields #[.none, .bool false, .ref s.heap.objs.size, rawInt 0, .none, .none] }) (s.heap.objs.size + 1) s.heap.objs.size 0 .none := by
    have := Heap.get?_push_size (s.heap.push o) (o := { cls := .type "enumerate", data := .fields #[.none, .bool false, .ref s.heap.objs.size, rawInt 0, .none, .none] }) rfl
    rw [hz] at this; exact this
  refine ⟨⟨_, he, rfl⟩, h _ he (Heap.get?_push_of_some _ (Heap.get?_push_size _ B.free)) (by rw [Heap.size_push, hz]) fun b o x => Heap.get?_push_of_some _ (Heap.get?_push_of_some _ x)⟩

/-- the list at a as it stands at each turn, each item in a new pair with a count -/
def IteFL (K : PySem.W.Frag) (k0 : Int) (a : Addr) : It :=
  ⟨fun i H => ∃ (xs : List V) (x : V), SqL K H a xs ∧ xs[i]? = some x, fun i H v H' => ∃ T x, v = .ref T ∧ H T = none ∧ H' = upd H T (.tup [.int (k0 + (i : Nat)), x]) ∧ ∀ xs, SqL K H a xs → xs[i]? = some x, fun i H => ∃ xs : List V, SqL K H a xs ∧ xs.length = i⟩
theorem turn_enumFL {P : Program} {w : World} {K : PySem.W.Frag} {elts : List Expr} {kk : Nat} {tpos : Pos} (k0 : Int) (a e it : Addr) (ha : a ≠ it) (hae : a ≠ e) :
    Turn P w K (.Tuple elts kk tpos) (IteFL K k0 a) [e, it] e (fun i h => (∃ old, IsEnum h e it (k0 + ((i : Nat) : Int)) old) ∧ h.IsListIter it a i ∧ e ≠ it) where
  mem := by simp
  obj := fun i h st b hb => by
    obtain ⟨⟨old, he⟩, ⟨o, ho, hc, hd⟩, _⟩ := st
    have e' : b = e ∨ b = it := by simpa using hb
    rcases e' with z | z
    · rw [z]; exact ⟨_, he, fun v q => nomatch q⟩
    · rw [z]; exact ⟨o, ho, fun v q => by rw [hd] at q; cases q⟩
  keep := fun i h h' st k => let ⟨⟨old, he⟩, hi, hne⟩ := st; ⟨⟨old, k e (by simp) _ he⟩, hi.at fun o q => k it (by simp) o q, hne⟩
  item := by
    intro X hP hw hK hc i pins s σ H E I hf st hg
    subst hP hw hK
    obtain ⟨⟨old, he⟩, hit, hne⟩ := st
    obtain ⟨xs, x, hq, hx⟩ := hg
    obtain ⟨its, rv, p, hz⟩ := I.list hq
    obtain ⟨u, hu, ru⟩ := rv.get hx
    have hel : e < s.heap.objs.size := Heap.lt_size he
    have hil : it < s.heap.objs.size := by obtain ⟨_, q, _⟩ := hit; exact Heap.lt_size q
    have hlt : i < its.toArray.size := by
      have := (List.getElem?_eq_some_iff.mp hu).1
      simpa using this
    have D := Draws.list (prog := X.prog) (w := X.w) (A := X.A.in1) (I.ok.hd hc) it a ha its.toArray
    have hef : e ∉ [it, a] := by
      intro z
      simp at z
      rcases z with z | z
      · exact hne z
      · exact hae z.symm
    refine wpAny_pyNext_enum_itemC D he ⟨hit, p.isList⟩ hlt hne hef fun y h' tk hy ho hit' hT hsz hk => ?_
    have eu : y = u := by
      have hu' : its.toArray[i]? = some u := by simpa using hu
      rw [hu'] at hy; exact (Option.some.inj hy).symm
    subst eu
    refine ⟨_, rfl, wpAny_letOwnedTupleGo_enum (s := { s with heap := h', toks := tk + 1 }) ho fun h'' he' sb => ?_⟩
    have hT2 : h''.get? s.heap.objs.size = some { cls := .type "tuple", data := .seq #[.int (k0 + (i : Int)) tk, y] } := (sb.2 _ (Nat.ne_of_gt hel)).trans hT
    have new : ObjOk X.prog X.w (upd H s.heap.objs.size (.tup [.int (k0 + (i : Nat)), x])) h'' s.heap.objs.size (.tup [.int (k0 + (i : Nat)), x]) :=
      ⟨by show 2 ≤ sizeLine; decide, [.int (k0 + (i : Int)) tk, y], .cons ⟨_, rfl⟩ (.cons ru .nil), ⟨_, hT2, rfl, _, rfl⟩⟩
    have I1 : Inv X pins σ (upd H s.heap.objs.size (.tup [.int (k0 + (i : Nat)), x])) { s with heap := h'', toks := tk + 1 } :=
      I.turnedNew (ch := [e, it]) (fun b ob hb q => (sb.2 b (fun z => hb (by simp [z]))).trans (hk b ob (fun z => hb (by simp [z])) (fun z => hb (by simp [z])) q)) hf (Nat.le_refl _) new
    refine ⟨.ref s.heap.objs.size, _, I1, rfl, ⟨_, x, rfl, I.hok.fresh (Nat.le_refl _), rfl, fun ys hy => by rw [I.list_inj hy hq]; exact hx⟩, ⟨⟨y, ?_⟩, hit'.1.at fun o q => (sb.2 it (Ne.symm hne)).trans q, hne⟩, fun b hb => ?_⟩
    · have e1 : k0 + ((i + 1 : Nat) : Int) = k0 + (i : Int) + 1 := by omega
      rw [e1]; exact he'
    · have hb' : b < s.heap.objs.size := by
        have e' : b = e ∨ b = it := by simpa using hb
        rcases e' with z | z
        · rw [z]; exact hel
        · rw [z]; exact hil
      rw [upd_ne (Nat.ne_of_lt hb')]
      exact (hf b hb).1
  done := by
    intro X hP hw hK hc i pins s σ H E I hf st hg
    subst hP hw hK
    obtain ⟨⟨old, he⟩, hit, hne⟩ := st
    obtain ⟨xs, hq, hx⟩ := hg
    obtain ⟨its, rv, p, hz⟩ := I.list hq
    obtain ⟨f0, f1, f2, f3, f4, f5⟩ := hf it (by simp)
    have hl := rv.length
    have hi : i = its.toArray.size := by simp; omega
    subst hi
    have D := Draws.list (prog := X.prog) (w := X.w) (A := X.A.in1) (I.ok.hd hc) it a ha its.toArray
    exact wpAny_pyNext_enum_endD D he ⟨hit, p.isList⟩ fun h' eb => ⟨rfl, I.turned (t' := s.toks) (fun b o hb q => eb b o hb q) f0 f1 f3 f4 f5⟩
  self := fun A i s Q E st h => let ⟨⟨_, he⟩, _⟩ := st; wpAny_pyIter_enum he h

theorem enum1_tailL {X : Cx} {pins : List (Addr × Obj)} {σ : L2.St} {H1 : Hp} {s1 : Shared} {elts : List Expr} {kk : Nat} {tpos : Pos} {a : Addr} {xs : List V} {R : It → Hp → Prop} (I1 : Inv X pins σ H1 s1) (hq : SqL X.K H1 a xs) (q : R (IteFL X.K 0 a) H1) :
    wpAny (model X.prog X.w) X.A (call (.type "enumerate") [.ref a]) (fun v s2 => wpAny (model X.prog X.w) X.A (pyIter v) (PIE X pins σ (.Tuple elts kk tpos) R) X.xe s2) X.xe s1 := by
  obtain ⟨its, rv, p', hz⟩ := I1.list hq
  have hal : a < s1.heap.objs.size := p'.lt
  refine enum_begins1 (begins_list a its.toArray) p'.isList fun h' he hit hsz hk => wpAny_pyIter_enum he ?_
  have I2 : Inv X pins σ H1 { s1 with heap := h' } := I1.kept (t' := s1.toks) hk
  refine ⟨s1.heap.objs.size + 1, [s1.heap.objs.size + 1, s1.heap.objs.size], _, _, H1, rfl, I2, turn_enumFL 0 a (s1.heap.objs.size + 1) s1.heap.objs.size (Nat.ne_of_lt hal) (Nat.ne_of_lt (Nat.lt_succ_of_lt hal)), ⟨⟨.none, by simpa using he⟩, ⟨_, hit, rfl, rfl⟩, Nat.succ_ne_self _⟩, fun b hb => ?_, q⟩
  have e' : b = s1.heap.objs.size + 1 ∨ b = s1.heap.objs.size := by simpa using hb
  have hle : s1.heap.objs.size ≤ b := by
    rcases e' with z | z
    · rw [z]; exact Nat.le_add_right _ _
    · rw [z]; exact Nat.le_refl _
  exact I1.fpOk hle (I1.hok.fresh hle)
theorem enum2_tailL {X : Cx} {pins : List (Addr × Obj)} {σ : L2.St} {H1 : Hp} {s1 : Shared} {elts : List Expr} {kk : Nat} {tpos : Pos} {a : Addr} {xs : List V} {k : Int} {t : Tok} {R : It → Hp → Prop} (I1 : Inv X pins σ H1 s1) (hq : SqL X.K H1 a xs) (k1 : -(2 ^ 63) ≤ k) (k2 : k < 2 ^ 63) (q : R (IteFL X.K k a) H1) :
    wpAny (model X.prog X.w) X.A (call (.type "enumerate") [.ref a, .int k t]) (fun v s2 => wpAny (model X.prog X.w) X.A (pyIter v) (PIE X pins σ (.Tuple elts kk tpos) R) X.xe s2) X.xe s1 := by
  obtain ⟨its, rv, p', hz⟩ := I1.list hq
  have hal : a < s1.heap.objs.size := p'.lt
  refine enum_begins (begins_list a its.toArray) p'.isList k1 k2 fun h' he hit hsz hk => wpAny_pyIter_enum he ?_
  have I2 : Inv X pins σ H1 { s1 with heap := h' } := I1.kept (t' := s1.toks) hk
  refine ⟨s1.heap.objs.size + 1, [s1.heap.objs.size + 1, s1.heap.objs.size], _, _, H1, rfl, I2, turn_enumFL k a (s1.heap.objs.size + 1) s1.heap.objs.size (Nat.ne_of_lt hal) (Nat.ne_of_lt (Nat.lt_succ_of_lt hal)), ⟨⟨.none, by simpa using he⟩, ⟨_, hit, rfl, rfl⟩, Nat.succ_ne_self _⟩, fun b hb => ?_, q⟩
  have e' : b = s1.heap.objs.size + 1 ∨ b = s1.heap.objs.size := by simpa using hb
  have hle : s1.heap.objs.size ≤ b := by
    rcases e' with z | z
    · rw [z]; exact Nat.le_add_right _ _
    · rw [z]; exact Nat.le_refl _
  exact I1.fpOk hle (I1.hok.fresh hle)

/-- the tuple at a as it stands at each turn, each item in a new pair with a count -/
def IteFT (K : PySem.W.Frag) (k0 : Int) (a : Addr) : It :=
  ⟨fun i H => ∃ (xs : List V) (x : V), SqT K H a xs ∧ xs[i]? = some x, fun i H v H' => ∃ T x, v = .ref T ∧ H T = none ∧ H' = upd H T (.tup [.int (k0 + (i : Nat)), x]) ∧ ∀ xs, SqT K H a xs → xs[i]? = some x, fun i H => ∃ xs : List V, SqT K H a xs ∧ xs.length = i⟩
theorem turn_enumFT {P : Program} {w : World} {K : PySem.W.Frag} {elts : List Expr} {kk : Nat} {tpos : Pos} (k0 : Int) (a e it : Addr) (ha : a ≠ it) (hae : a ≠ e) :
    Turn P w K (.Tuple elts kk tpos) (IteFT K k0 a) [e, it] e (fun i h => (∃ old, IsEnum h e it (k0 + ((i : Nat) : Int)) old) ∧ h.IsTupleIter it a i ∧ e ≠ it) where
  mem := by simp
  obj := fun i h st b hb => by
    obtain ⟨⟨old, he⟩, ⟨o, ho, hc, hd⟩, _⟩ := st
    have e' : b = e ∨ b = it := by simpa using hb
    rcases e' with z | z
    · rw [z]; exact ⟨_, he, fun v q => nomatch q⟩
    · rw [z]; exact ⟨o, ho, fun v q => by rw [hd] at q; cases q⟩
  keep := fun i h h' st k => let ⟨⟨old, he⟩, hi, hne⟩ := st; ⟨⟨old, k e (by simp) _ he⟩, hi.at fun o q => k it (by simp) o q, hne⟩
  item := by
    intro X hP hw hK hc i pins s σ H E I hf st hg
    subst hP hw hK
    obtain ⟨⟨old, he⟩, hit, hne⟩ := st
    obtain ⟨xs, x, hq, hx⟩ := hg
    obtain ⟨its, rv, p, hz⟩ := I.tuple hq
    obtain ⟨u, hu, ru⟩ := rv.get hx
    have hel : e < s.heap.objs.size := Heap.lt_size he
    have hil : it < s.heap.objs.size := by obtain ⟨_, q, _⟩ := hit; exact Heap.lt_size q
    have hlt : i < its.toArray.size := by
      have := (List.getElem?_eq_some_iff.mp hu).1
      simpa using this
    have D := Draws.tuple (prog := X.prog) (w := X.w) (A := X.A.in1) (I.ok.hd hc) it a ha its.toArray
    have hef : e ∉ [it, a] := by
      intro z
      simp at z
      rcases z with z | z
      · exact hne z
      · exact hae z.symm
    refine wpAny_pyNext_enum_itemC D he ⟨hit, p⟩ hlt hne hef fun y h' tk hy ho hit' hT hsz hk => ?_
    have eu : y = u := by
      have hu' : its.toArray[i]? = some u := by simpa using hu
      rw [hu'] at hy; exact (Option.some.inj hy).symm
    subst eu
    refine ⟨_, rfl, wpAny_letOwnedTupleGo_enum (s := { s with heap := h', toks := tk + 1 }) ho fun h'' he' sb => ?_⟩
    have hT2 : h''.get? s.heap.objs.size = some { cls := .type "tuple", data := .seq #[.int (k0 + (i : Int)) tk, y] } := (sb.2 _ (Nat.ne_of_gt hel)).trans hT
    have new : ObjOk X.prog X.w (upd H s.heap.objs.size (.tup [.int (k0 + (i : Nat)), x])) h'' s.heap.objs.size (.tup [.int (k0 + (i : Nat)), x]) :=
      ⟨by show 2 ≤ sizeLine; decide, [.int (k0 + (i : Int)) tk, y], .cons ⟨_, rfl⟩ (.cons ru .nil), ⟨_, hT2, rfl, _, rfl⟩⟩
    have I1 : Inv X pins σ (upd H s.heap.objs.size (.tup [.int (k0 + (i : Nat)), x])) { s with heap := h'', toks := tk + 1 } :=
      I.turnedNew (ch := [e, it]) (fun b ob hb q => (sb.2 b (fun z => hb (by simp [z]))).trans (hk b ob (fun z => hb (by simp [z])) (fun z => hb (by simp [z])) q)) hf (Nat.le_refl _) new
    refine ⟨.ref s.heap.objs.size, _, I1, rfl, ⟨_, x, rfl, I.hok.fresh (Nat.le_refl _), rfl, fun ys hy => by rw [I.tuple_inj hy hq]; exact hx⟩, ⟨⟨y, ?_⟩, hit'.1.at fun o q => (sb.2 it (Ne.symm hne)).trans q, hne⟩, fun b hb => ?_⟩
    · have e1 : k0 + ((i + 1 : Nat) : Int) = k0 + (i : Int) + 1 := by omega
      rw [e1]; exact he'
    · have hb' : b < s.heap.objs.size := by
        have e' : b = e ∨ b = it := by simpa using hb
        rcases e' with z | z
        · rw [z]; exact hel
        · rw [z]; exact hil
      rw [upd_ne (Nat.ne_of_lt hb')]
      exact (hf b hb).1
  done := by
    intro X hP hw hK hc i pins s σ H E I hf st hg
    subst hP hw hK
    obtain ⟨⟨old, he⟩, hit, hne⟩ := st
    obtain ⟨xs, hq, hx⟩ := hg
    obtain ⟨its, rv, p, hz⟩ := I.tuple hq
    obtain ⟨f0, f1, f2, f3, f4, f5⟩ := hf it (by simp)
    have hl := rv.length
    have hi : i = its.toArray.size := by simp; omega
    subst hi
    have D := Draws.tuple (prog := X.prog) (w := X.w) (A := X.A.in1) (I.ok.hd hc) it a ha its.toArray
    exact wpAny_pyNext_enum_endD D he ⟨hit, p⟩ fun h' eb => ⟨rfl, I.turned (t' := s.toks) (fun b o hb q => eb b o hb q) f0 f1 f3 f4 f5⟩
  self := fun A i s Q E st h => let ⟨⟨_, he⟩, _⟩ := st; wpAny_pyIter_enum he h

theorem enum1_tailT {X : Cx} {pins : List (Addr × Obj)} {σ : L2.St} {H1 : Hp} {s1 : Shared} {elts : List Expr} {kk : Nat} {tpos : Pos} {a : Addr} {xs : List V} {R : It → Hp → Prop} (I1 : Inv X pins σ H1 s1) (hq : SqT X.K H1 a xs) (q : R (IteFT X.K 0 a) H1) :
    wpAny (model X.prog X.w) X.A (call (.type "enumerate") [.ref a]) (fun v s2 => wpAny (model X.prog X.w) X.A (pyIter v) (PIE X pins σ (.Tuple elts kk tpos) R) X.xe s2) X.xe s1 := by
  obtain ⟨its, rv, p', hz⟩ := I1.tuple hq
  have hal : a < s1.heap.objs.size := (by obtain ⟨o, ho, _⟩ := p'; exact Heap.lt_size ho)
  refine enum_begins1 (begins_tuple a its.toArray) p' fun h' he hit hsz hk => wpAny_pyIter_enum he ?_
  have I2 : Inv X pins σ H1 { s1 with heap := h' } := I1.kept (t' := s1.toks) hk
  refine ⟨s1.heap.objs.size + 1, [s1.heap.objs.size + 1, s1.heap.objs.size], _, _, H1, rfl, I2, turn_enumFT 0 a (s1.heap.objs.size + 1) s1.heap.objs.size (Nat.ne_of_lt hal) (Nat.ne_of_lt (Nat.lt_succ_of_lt hal)), ⟨⟨.none, by simpa using he⟩, ⟨_, hit, rfl, rfl⟩, Nat.succ_ne_self _⟩, fun b hb => ?_, q⟩
  have e' : b = s1.heap.objs.size + 1 ∨ b = s1.heap.objs.size := by simpa using hb
  have hle : s1.heap.objs.size ≤ b := by
    rcases e' with z | z
    · rw [z]; exact Nat.le_add_right _ _
    · rw [z]; exact Nat.le_refl _
  exact I1.fpOk hle (I1.hok.fresh hle)
theorem enum2_tailT {X : Cx} {pins : List (Addr × Obj)} {σ : L2.St} {H1 : Hp} {s1 : Shared} {elts : List Expr} {kk : Nat} {tpos : Pos} {a : Addr} {xs : List V} {k : Int} {t : Tok} {R : It → Hp → Prop} (I1 : Inv X pins σ H1 s1) (hq : SqT X.K H1 a xs) (k1 : -(2 ^ 63) ≤ k) (k2 : k < 2 ^ 63) (q : R (IteFT X.K k a) H1) :
    wpAny (model X.prog X.w) X.A (call (.type "enumerate") [.ref a, .int k t]) (fun v s2 => wpAny (model X.prog X.w) X.A (pyIter v) (PIE X pins σ (.Tuple elts kk tpos) R) X.xe s2) X.xe s1 := by
  obtain ⟨its, rv, p', hz⟩ := I1.tuple hq
  have hal : a < s1.heap.objs.size := (by obtain ⟨o, ho, _⟩ := p'; exact Heap.lt_size ho)
  refine enum_begins (begins_tuple a its.toArray) p' k1 k2 fun h' he hit hsz hk => wpAny_pyIter_enum he ?_
  have I2 : Inv X pins σ H1 { s1 with heap := h' } := I1.kept (t' := s1.toks) hk
  refine ⟨s1.heap.objs.size + 1, [s1.heap.objs.size + 1, s1.heap.objs.size], _, _, H1, rfl, I2, turn_enumFT k a (s1.heap.objs.size + 1) s1.heap.objs.size (Nat.ne_of_lt hal) (Nat.ne_of_lt (Nat.lt_succ_of_lt hal)), ⟨⟨.none, by simpa using he⟩, ⟨_, hit, rfl, rfl⟩, Nat.succ_ne_self _⟩, fun b hb => ?_, q⟩
  have e' : b = s1.heap.objs.size + 1 ∨ b = s1.heap.objs.size := by simpa using hb
  have hle : s1.heap.objs.size ≤ b := by
    rcases e' with z | z
    · rw [z]; exact Nat.le_add_right _ _
    · rw [z]; exact Nat.le_refl _
  exact I1.fpOk hle (I1.hok.fresh hle)

def iEnum1 (K : PySem.W.Frag) (ta : TA) : TI := fun σ H R => ta σ H fun vs H1 => ∃ a xs, vs = [.ref a] ∧ ((SqL K H1 a xs ∧ R (IteFL K 0 a) H1) ∨ (SqT K H1 a xs ∧ R (IteFT K 0 a) H1))
theorem pi_enum1 {X : Cx} {e : Expr} {ta : TA} {p pos tpos : Pos} {elts : List Expr} {kk : Nat} (hg : L2.Gl X "enumerate") (hm : X.mg "enumerate" = none) (ha : PA X [e] ta)
    (hs : starEach [e] X.env = (false, eval e X.env) :: starEach [] X.env) (hpl : (backTo pos (starEach [] X.env)).any (·.1) = false) :
    PI X (.Tuple elts kk tpos) (.Call (.Name "enumerate" p) [e] [] pos) (iEnum1 X.K ta) := by
  refine ⟨fun pins s σ H R I h => ?_⟩
  refine Call_ (ld_blt I hg hm boot_enumerate (PyProof.Rows.callWith_type1 (thn (ha.run pos pins s σ H _ I h) fun us s1 ⟨vs, H1, I1, r1, q1⟩ => ?_) hs hpl))
  obtain ⟨a, xs, ex, q⟩ := q1
  subst ex
  cases r1 with
  | cons r rr =>
    cases rr
    cases r
    rcases q with ⟨hq, q⟩ | ⟨hq, q⟩
    · exact enum1_tailL I1 hq q
    · exact enum1_tailT I1 hq q
def iEnum2 (K : PySem.W.Frag) (ta : TA) : TI := fun σ H R => ta σ H fun vs H1 => ∃ a xs k, vs = [.ref a, .int k] ∧ -(2 ^ 63) ≤ k ∧ k < 2 ^ 63 ∧ ((SqL K H1 a xs ∧ R (IteFL K k a) H1) ∨ (SqT K H1 a xs ∧ R (IteFT K k a) H1))
theorem pi_enum2 {X : Cx} {e e2 : Expr} {ta : TA} {p pos tpos : Pos} {elts : List Expr} {kk : Nat} (hg : L2.Gl X "enumerate") (hm : X.mg "enumerate" = none) (ha : PA X [e, e2] ta)
    (hs : starEach [e, e2] X.env = (false, eval e X.env) :: starEach [e2] X.env) (hpl : (backTo pos (starEach [e2] X.env)).any (·.1) = false) :
    PI X (.Tuple elts kk tpos) (.Call (.Name "enumerate" p) [e, e2] [] pos) (iEnum2 X.K ta) := by
  refine ⟨fun pins s σ H R I h => ?_⟩
  refine Call_ (ld_blt I hg hm boot_enumerate (PyProof.Rows.callWith_type1 (thn (ha.run pos pins s σ H _ I h) fun us s1 ⟨vs, H1, I1, r1, q1⟩ => ?_) hs hpl))
  obtain ⟨a, xs, k, ex, k1, k2, q⟩ := q1
  subst ex
  cases r1 with
  | cons r rr =>
    cases rr with
    | cons r' rr =>
      cases rr
      cases r
      obtain ⟨t, rfl⟩ := r'
      rcases q with ⟨hq, q⟩ | ⟨hq, q⟩
      · exact enum2_tailL I1 hq k1 k2 q
      · exact enum2_tailT I1 hq k1 k2 q

/-! ### what is walked, by data -/
/-- J hands on these data, as long as Rl -/
def ItOk (U : Wd) (Rl : Ow → Hp → Prop) (J : It) (items : List D) : Prop := ∀ ow' H2 s', Rl ow' H2 → Hk U ow' H2 s' →
  (∀ (i : Nat) d, items[i]? = some d → J.go i H2 ∧ ∀ x H3, J.yld i H2 x H3 → Ext U H2 H3 ∧ Cap U H3 s' ∧ Rp U ow' H3 d x) ∧ J.stop items.length H2
def tOfI (U : Wd) (W : WX) (f : St → M (List D)) (Rl : Ow → Hp → Ow → Hp → Prop) : TI := fun σ H R => ∃ H0 ow0 ow σd s, SR U H0 ow0 ow σ H σd s ∧
  Wp (f σd) s (fun items s' => ∀ J H', Ext U H H' → Cap U H' s' → ItOk U (Rl ow H') J items → R J H') (PostX U W σ H)
def tOfQ (U : Wd) (W : WX) (Src : Ow → Hp → D → V → Prop) (f : St → M D) : TE := fun σ H Q => ∃ H0 ow0 ow σd s, SR U H0 ow0 ow σ H σd s ∧
  Wp (f σd) s (fun d s' => ∀ v H', Ext U H H' → Cap U H' s' → Src ow H' d v → Q v H') (PostX U W σ H)
/-- a source that stays, as long as Rl -/
structure SrcOk (U : Wd) (Rl : Ow → Hp → Ow → Hp → Prop) (Src : Ow → Hp → D → V → Prop) : Prop where
  pk : ∀ ow H d v, Src ow H d v → Pk U ow H d v
  ext : ∀ ow H H' d v, Ext U H H' → Src ow H d v → Src ow H' d v
  lst : ∀ ow H ds v, Src ow H (.list ds) v → ∃ a xs, v = .ref a ∧ H a = some (.lst xs) ∧ ∀ ow' H2, Rl ow H ow' H2 → H2 a = some (.lst xs) ∧ RpL U ow' H2 ds xs
  tup : ∀ ow H ds v, Src ow H (.tuple ds) v → ∃ a xs, v = .ref a ∧ SqT U.K H a xs ∧ ∀ ow' H2, Rl ow H ow' H2 → SqT U.K H2 a xs ∧ RpL U ow' H2 ds xs
  self : ∀ ow H, Rl ow H ow H
def RlE (U : Wd) : Ow → Hp → Ow → Hp → Prop := fun ow H ow' H2 => (∀ a u, H a = some u → ow' a = ow a) ∧ Ext U H H2
theorem RlE.keep {U : Wd} {ow ow' : Ow} {H H2 : Hp} (h : RlE U ow H ow' H2) : Keep U ow ow' H H2 := fun a u hc ho e => ⟨h.2 a u hc e, by rw [h.1 a u e]; exact ho⟩
def RlK (U : Wd) : Ow → Hp → Ow → Hp → Prop := fun ow H ow' H2 => Keep U ow ow' H H2
theorem srcE (U : Wd) : SrcOk U (RlE U) (Pk U) where
  pk := fun _ _ _ _ h => h
  ext := fun _ _ _ _ _ e h => h.ext e
  lst := fun ow H ds v h => by
    rcases h with h | ⟨i, a, u, e2, h1, h2, h3, r⟩
    · unfold Rp at h
      obtain ⟨a, xs, e, n, r⟩ := h
      exact ⟨a, xs, e, n.1, fun ow' H2 h => ⟨h.2 a _ n.2.2 n.1, RpL.mono (RlE.keep h) ds xs r⟩⟩
    · obtain ⟨xs, eu, r2⟩ := r.list
      subst eu
      exact ⟨a, xs, e2, h1, fun ow' H2 h => ⟨h.2 a _ h3 h1, RpL.mono (RlE.keep h) ds xs r2⟩⟩
  tup := fun ow H ds v h => by
    rcases h with h | ⟨i, h⟩
    · unfold Rp at h
      obtain ⟨a, xs, e, n, r⟩ := h
      refine ⟨a, xs, e, n.elim (fun n => .inl (.inl n.1)) (fun n => .inr n), fun ow' H2 h => ?_⟩
      exact ⟨n.elim (fun n => .inl (.inl (h.2 a _ n.2.2 n.1))) (fun n => .inr n), RpL.mono (RlE.keep h) ds xs r⟩
    · cases h.soft
  self := fun _ _ => ⟨fun _ _ _ => rfl, Ext.refl⟩
theorem srcK (U : Wd) : SrcOk U (RlK U) (Rp U) where
  pk := fun _ _ _ _ h => .inl h
  ext := fun _ _ _ _ _ e h => h.ext e
  lst := fun ow H ds v h => by
    unfold Rp at h
    obtain ⟨a, xs, e, n, r⟩ := h
    exact ⟨a, xs, e, n.1, fun ow' H2 k => ⟨(k a _ n.2.2 n.2.1 n.1).1, RpL.mono k ds xs r⟩⟩
  tup := fun ow H ds v h => by
    unfold Rp at h
    obtain ⟨a, xs, e, n, r⟩ := h
    exact ⟨a, xs, e, n.elim (fun n => .inl (.inl n.1)) (fun n => .inr n), fun ow' H2 k => ⟨n.elim (fun n => .inl (.inl (k a _ n.2.2 n.2.1 n.1).1)) (fun n => .inr n), RpL.mono k ds xs r⟩⟩
  self := fun _ _ => fun _ _ _ ho h => ⟨h, ho⟩
theorem PI.imp {X : Cx} {tg e : Expr} {t t' : TI} (h : PI X tg e t) (i : ∀ σ H R, t' σ H R → t σ H R) : PI X tg e t' := ⟨fun pins s σ H R I q => h.run pins s σ H R I (i σ H R q)⟩
section
variable {U : Wd} {k : Nat} {Γ : Cxt} {X : Cx} {W : WX} {G : Gs} {ow : Ow} {H : Hp} {s : DS} {Rl : Ow → Hp → Ow → Hp → Prop} {Src : Ow → Hp → D → V → Prop}
theorem item_get {ds : List D} {xs : List V} {i : Nat} {d : D} {x : V} (r : RpL U ow H ds xs) (hd : ds[i]? = some d) (hx : xs[i]? = some x) : Rp U ow H d x := by
  obtain ⟨y, h1, h2⟩ := r.get hd
  rw [hx] at h1
  cases h1
  exact h2
theorem len_get {ds : List D} {xs : List V} {i : Nat} {d : D} (r : RpL U ow H ds xs) (hd : ds[i]? = some d) : ∃ x, xs[i]? = some x := by
  obtain ⟨y, h1, h2⟩ := r.get hd
  exact ⟨y, h1⟩
theorem it_list (hK : X.K = U.K) {a : Addr} {xs : List V} {ds : List D} (h : ∀ ow' H2, Rl ow H ow' H2 → H2 a = some (.lst xs) ∧ RpL U ow' H2 ds xs) : ItOk U (Rl ow H) (Itl X.K a) ds := by
  intro ow' H2 s' hr hk
  obtain ⟨h1, r⟩ := h ow' H2 hr
  refine ⟨fun i d hd => ?_, ⟨xs, .inl (.inl h1), by rw [r.length]; exact Nat.le_refl _⟩⟩
  obtain ⟨x, hx⟩ := len_get r hd
  refine ⟨⟨xs, x, .inl (.inl h1), hx⟩, fun y H3 ⟨e, hy⟩ => ?_⟩
  subst e
  have := hy xs (.inl (.inl h1))
  exact ⟨Ext.refl, hk.cap, item_get r hd this⟩
theorem it_tup (hK : X.K = U.K) {a : Addr} {xs : List V} {ds : List D} (h : ∀ ow' H2, Rl ow H ow' H2 → SqT U.K H2 a xs ∧ RpL U ow' H2 ds xs) : ItOk U (Rl ow H) (Itt X.K a) ds := by
  intro ow' H2 s' hr hk
  obtain ⟨h1, r⟩ := h ow' H2 hr
  rw [← hK] at h1
  refine ⟨fun i d hd => ?_, ⟨xs, h1, by rw [r.length]; exact Nat.le_refl _⟩⟩
  obtain ⟨x, hx⟩ := len_get r hd
  refine ⟨⟨xs, x, h1, hx⟩, fun y H3 ⟨e, hy⟩ => ?_⟩
  subst e
  exact ⟨Ext.refl, hk.cap, item_get r hd (hy xs h1)⟩
theorem it_rng {lo : Int} {n : Nat} : ItOk U (Rl ow H) (Itr lo n) (rangeD lo n) := by
  intro ow' H2 s' hr hk
  have hl : (rangeD lo n).length = n := by unfold rangeD; simp
  refine ⟨fun i d hd => ?_, by rw [hl]; exact Nat.le_refl _⟩
  have hi : i < n := by have := (List.getElem?_eq_some_iff.mp hd).1; rw [hl] at this; exact this
  have hd' : d = .int (lo + (i : Nat)) := by
    unfold rangeD at hd
    rw [List.getElem?_map, List.getElem?_range hi] at hd
    exact (Option.some.inj hd).symm
  refine ⟨hi, fun y H3 ⟨e, hy⟩ => ?_⟩
  subst e hy hd'
  exact ⟨Ext.refl, hk.cap, Rp.int⟩
theorem enumD_get : ∀ {ds : List D} {k : Int} {i : Nat} {d : D}, (enumD k ds)[i]? = some d → ∃ e, ds[i]? = some e ∧ d = .tuple [.int (k + (i : Nat)), e]
  | [], k, i, d, h => by simp [enumD] at h
  | x :: ds, k, 0, d, h => by
    simp [enumD] at h
    exact ⟨x, rfl, by rw [← h]; simp⟩
  | x :: ds, k, i + 1, d, h => by
    simp only [enumD, List.getElem?_cons_succ] at h
    obtain ⟨e, h1, h2⟩ := enumD_get h
    refine ⟨e, by simpa using h1, ?_⟩
    rw [h2]
    congr 2
    have : k + 1 + ((i : Nat) : Int) = k + ((i + 1 : Nat) : Int) := by omega
    rw [this]
theorem enumD_len : ∀ (ds : List D) (k : Int), (enumD k ds).length = ds.length
  | [], k => rfl
  | x :: ds, k => by simp only [enumD, List.length_cons]; rw [enumD_len ds]
theorem it_new2 (hk : Hk U ow H s) {T : Addr} (hT : H T = none) {x y : V} {d e : D} (hx : Rp U ow H d x) (hy : Rp U ow H e y) : Ext U H (upd H T (.tup [x, y])) ∧ Cap U (upd H T (.tup [x, y])) s ∧ Rp U ow (upd H T (.tup [x, y])) (.tuple [d, e]) (.ref T) :=
  ⟨Ext.new hT, hk.cap.new hT, Rp.newT (RpL.cons hx (RpL.cons hy RpL.nil)) hT (hk.nocap hT) (hk.noow hT)⟩
theorem it_enumL (hK : X.K = U.K) {a : Addr} {xs : List V} {ds : List D} {k0 : Int} (h : ∀ ow' H2, Rl ow H ow' H2 → H2 a = some (.lst xs) ∧ RpL U ow' H2 ds xs) : ItOk U (Rl ow H) (IteFL X.K k0 a) (enumD k0 ds) := by
  intro ow' H2 s' hr hk
  obtain ⟨h1, r⟩ := h ow' H2 hr
  refine ⟨fun i d hd => ?_, ⟨xs, .inl (.inl h1), by rw [enumD_len, r.length]⟩⟩
  obtain ⟨e, he, hde⟩ := enumD_get hd
  obtain ⟨x, hx⟩ := len_get r he
  refine ⟨⟨xs, x, .inl (.inl h1), hx⟩, fun y H3 ⟨T, x', ey, hT, eH, hy⟩ => ?_⟩
  have hx' := hy xs (.inl (.inl h1))
  subst ey eH hde
  exact it_new2 hk hT Rp.int (item_get r he hx')
theorem it_enumT (hK : X.K = U.K) {a : Addr} {xs : List V} {ds : List D} {k0 : Int} (h : ∀ ow' H2, Rl ow H ow' H2 → SqT U.K H2 a xs ∧ RpL U ow' H2 ds xs) : ItOk U (Rl ow H) (IteFT X.K k0 a) (enumD k0 ds) := by
  intro ow' H2 s' hr hk
  obtain ⟨h1, r⟩ := h ow' H2 hr
  rw [← hK] at h1
  refine ⟨fun i d hd => ?_, ⟨xs, h1, by rw [enumD_len, r.length]⟩⟩
  obtain ⟨e, he, hde⟩ := enumD_get hd
  obtain ⟨x, hx⟩ := len_get r he
  refine ⟨⟨xs, x, h1, hx⟩, fun y H3 ⟨T, x', ey, hT, eH, hy⟩ => ?_⟩
  have hx' := hy xs h1
  subst ey eH hde
  exact it_new2 hk hT Rp.int (item_get r he hx')
theorem zipD_get : ∀ {ds es : List D} {i : Nat} {d : D}, (zipD ds es)[i]? = some d → ∃ a b, ds[i]? = some a ∧ es[i]? = some b ∧ d = .tuple [a, b]
  | [], es, i, d, h => by simp [zipD] at h
  | x :: ds, [], i, d, h => by simp [zipD] at h
  | x :: ds, y :: es, 0, d, h => by
    simp [zipD] at h
    exact ⟨x, y, rfl, rfl, h.symm⟩
  | x :: ds, y :: es, i + 1, d, h => by
    simp only [zipD, List.getElem?_cons_succ] at h
    obtain ⟨a, b, h1, h2, h3⟩ := zipD_get h
    exact ⟨a, b, by simpa using h1, by simpa using h2, h3⟩
theorem zipD_len : ∀ (ds es : List D), (zipD ds es).length = min ds.length es.length
  | [], es => by simp [zipD]
  | x :: ds, [] => by simp [zipD]
  | x :: ds, y :: es => by simp only [zipD, List.length_cons]; rw [zipD_len ds es]; omega
theorem it_zipL (hK : X.K = U.K) {a b : Addr} {xs ys : List V} {ds es : List D} (h : ∀ ow' H2, Rl ow H ow' H2 → H2 a = some (.lst xs) ∧ RpL U ow' H2 ds xs) (h' : ∀ ow' H2, Rl ow H ow' H2 → H2 b = some (.lst ys) ∧ RpL U ow' H2 es ys) : ItOk U (Rl ow H) (Itz X.K a b) (zipD ds es) := by
  intro ow' H2 s' hr hk
  obtain ⟨h1, r⟩ := h ow' H2 hr
  obtain ⟨h2, r2⟩ := h' ow' H2 hr
  refine ⟨fun i d hd => ?_, ⟨xs, ys, .inl (.inl h1), .inl (.inl h2), by rw [zipD_len, r.length, r2.length]; omega⟩⟩
  obtain ⟨e, f, he, hf, hde⟩ := zipD_get hd
  obtain ⟨x, hx⟩ := len_get r he
  obtain ⟨y, hy⟩ := len_get r2 hf
  refine ⟨⟨xs, ys, x, y, .inl (.inl h1), .inl (.inl h2), hx, hy⟩, fun z H3 ⟨T, x', y', ey, hT, eH, q1, q2⟩ => ?_⟩
  have hx' := q1 xs (.inl (.inl h1))
  have hy' := q2 ys (.inl (.inl h2))
  subst ey eH hde
  exact it_new2 hk hT (item_get r he hx') (item_get r2 hf hy')
theorem it_zipT (hK : X.K = U.K) {a b : Addr} {xs ys : List V} {ds es : List D} (h : ∀ ow' H2, Rl ow H ow' H2 → SqT U.K H2 a xs ∧ RpL U ow' H2 ds xs) (h' : ∀ ow' H2, Rl ow H ow' H2 → SqT U.K H2 b ys ∧ RpL U ow' H2 es ys) : ItOk U (Rl ow H) (RZ.ItzT X.K a b) (zipD ds es) := by
  intro ow' H2 s' hr hk
  obtain ⟨h1, r⟩ := h ow' H2 hr
  obtain ⟨h2, r2⟩ := h' ow' H2 hr
  rw [← hK] at h1 h2
  refine ⟨fun i d hd => ?_, ⟨xs, ys, h1, h2, by rw [zipD_len, r.length, r2.length]; omega⟩⟩
  obtain ⟨e, f, he, hf, hde⟩ := zipD_get hd
  obtain ⟨x, hx⟩ := len_get r he
  obtain ⟨y, hy⟩ := len_get r2 hf
  refine ⟨⟨xs, ys, x, y, h1, h2, hx, hy⟩, fun z H3 ⟨T, x', y', ey, hT, eH, q1, q2⟩ => ?_⟩
  have hx' := q1 xs h1
  have hy' := q2 ys h2
  subst ey eH hde
  exact it_new2 hk hT (item_get r he hx') (item_get r2 hf hy')
end
end Py

set_option Elab.async false
set_option linter.all false
set_option maxRecDepth 100000
set_option maxHeartbeats 1000000
namespace Py
open PySem PySem.Spec PyProof.Rows L2
section
variable {U : Wd} {k : Nat} {Γ : Cxt} {X : Cx} {W : WX} {G : Gs} {ow : Ow} {H : Hp} {s : DS} {Rl : Ow → Hp → Ow → Hp → Prop} {Src : Ow → Hp → D → V → Prop}
def SrcL (Src : Ow → Hp → D → V → Prop) (ow : Ow) (H : Hp) : List D → List V → Prop
  | [], xs => xs = []
  | d :: ds, xs => ∃ x ys, xs = x :: ys ∧ Src ow H d x ∧ SrcL Src ow H ds ys
def tOfQA (U : Wd) (W : WX) (Src : Ow → Hp → D → V → Prop) (f : St → M (List D)) : TA := fun σ H Q => ∃ H0 ow0 ow σd s, SR U H0 ow0 ow σ H σd s ∧ Wp (f σd) s (fun ds s' => ∀ vs H', Ext U H H' → Cap U H' s' → SrcL Src ow H' ds vs → Q vs H') (PostX U W σ H)
theorem pa_evsQ {f : St → Expr → M D} (SO : SrcOk U Rl Src) (g : ∀ e, PE X e (tOfQ U W Src (fun σ => f σ e))) : ∀ es : List Expr, PA X es (tOfQA U W Src (fun σ => evs (f σ) es))
  | [] => PA.imp pa_nil fun σ H Q h => by
    obtain ⟨H0, ow0, ow, σd, s, S, w⟩ := h
    exact w.of_pure [] H Ext.refl S.cap (by unfold SrcL; rfl)
  | e :: es => by
    by_cases hn : notStar e = true
    · refine PA.imp (pa_cons (g e) (pa_evsQ SO g es) (starEach_ns hn)) fun σ H Q h => ?_
      obtain ⟨H0, ow0, ow, σd, s, S, w⟩ := h
      have w : Wp (evs (f σd) (e :: es)) s _ _ := w
      unfold evs at w
      rw [if_pos hn] at w
      refine ⟨H0, ow0, ow, σd, s, S, w.of_bind.mono (fun d1 s1 h1 v1 H1 e1 c1 r1 => ⟨H0, ow0, ow, σd, s1, S.ext e1 c1, h1.of_bind.mono (fun ds s2 h2 vs H2 e2 c2 r2 => h2.of_pure (v1 :: vs) H2 (e1.trans e2) c2 (by unfold SrcL; exact ⟨v1, vs, rfl, SO.ext _ _ _ _ _ e2 r1, r2⟩)) fun x s' hx cls od H' e' => hx cls od H' (e1.trans e')⟩) fun _ _ h => h⟩
    · refine ⟨fun pos pins s σ H Q I h => ?_⟩
      obtain ⟨H0, ow0, ow, σd, s, S, w⟩ := h
      have w : Wp (evs (f σd) (e :: es)) s _ _ := w
      unfold evs at w
      rw [if_neg hn] at w
      exact w.of_fail.elim
theorem SrcL.one {d : D} {vs : List V} (h : SrcL Src ow H [d] vs) : ∃ v, vs = [v] ∧ Src ow H d v := by
  unfold SrcL at h
  obtain ⟨x, ys, e, p, r⟩ := h
  unfold SrcL at r
  subst r
  exact ⟨x, e, p⟩
theorem SrcL.two {d e : D} {vs : List V} (h : SrcL Src ow H [d, e] vs) : ∃ v w, vs = [v, w] ∧ Src ow H d v ∧ Src ow H e w := by
  unfold SrcL at h
  obtain ⟨x, ys, e1, p, r⟩ := h
  obtain ⟨y, e2, q⟩ := SrcL.one r
  subst e2
  exact ⟨x, y, e1, p, q⟩
theorem tOfQA.step {f : St → M (List D)} {β : Type} {kk : List D → M β} {σ : L2.St} {H0 : Hp} {ow0 : Ow} {σd : St} (S : SR U H0 ow0 ow σ H σd s) {Qb : β → DS → Prop} (w : Wp (f σd >>= kk) s Qb (PostX U W σ H)) {R : List V → Hp → Prop}
    (h : ∀ d v H1 s1, Ext U H H1 → SR U H0 ow0 ow σ H1 σd s1 → SrcL Src ow H1 d v → Wp (kk d) s1 Qb (PostX U W σ H) → R v H1) : tOfQA U W Src f σ H R :=
  ⟨H0, ow0, ow, σd, s, S, w.of_bind.mono (fun d s1 h1 v H1 e c p => h d v H1 s1 e (S.ext e c) p h1) fun _ _ h => h⟩
theorem tOfQ.step {f : St → M D} {β : Type} {kk : D → M β} {σ : L2.St} {H0 : Hp} {ow0 : Ow} {σd : St} (S : SR U H0 ow0 ow σ H σd s) {Qb : β → DS → Prop} (w : Wp (f σd >>= kk) s Qb (PostX U W σ H)) {R : VK}
    (h : ∀ d v H1 s1, Ext U H H1 → SR U H0 ow0 ow σ H1 σd s1 → Src ow H1 d v → Wp (kk d) s1 Qb (PostX U W σ H) → R v H1) : tOfQ U W Src f σ H R :=
  ⟨H0, ow0, ow, σd, s, S, w.of_bind.mono (fun d s1 h1 v H1 e c p => h d v H1 s1 e (S.ext e c) p h1) fun _ _ h => h⟩
theorem SqL.of_eq {K : PySem.W.Frag} {a : Addr} {xs : List V} (h : H a = some (.lst xs)) : SqL K H a xs := .inl (.inl h)
/-- data that are walked as they are -/
theorem pi_data (g : Good U k Γ X W) (SO : SrcOk U Rl Src) {tg e : Expr} {f : St → M D} (ha : PE X e (tOfQ U W Src f)) :
    PI X tg e (tOfI U W (fun σ => dataI (f σ)) Rl) := by
  have p1 := pi_list (tg := tg) ha
  have p2 := pi_tup (tg := tg) ha
  refine ⟨fun pins s' σ H R I h => ?_⟩
  obtain ⟨H0, ow0, ow, σd, s, S, w⟩ := h
  have w : Wp (do let d ← f σd; match itemsOf d with | some ds => pure ds | none => fail) s _ _ := w
  refine thn (ha.run pins s' σ H (fun v H1 => ∃ d s1, Ext U H H1 ∧ SR U H0 ow0 ow σ H1 σd s1 ∧ Src ow H1 d v ∧ Wp (match itemsOf d with | some ds => pure ds | none => fail) s1 (fun items s' => ∀ J H', Ext U H H' → Cap U H' s' → ItOk U (Rl ow H') J items → R J H') (PostX U W σ H)) I (tOfQ.step S w fun d1 v1 H1 s1 e1 S1 p1 w1 => ⟨d1, s1, e1, S1, p1, w1⟩)) fun v s2 hv => ?_
  obtain ⟨x, H1, I1, rx, d, s1, e1, S1, px, w1⟩ := hv
  cases d with
  | list ds =>
    have w1 : Wp (pure ds) s1 _ _ := w1
    obtain ⟨a, xs, ev, h1, hh⟩ := SO.lst _ _ _ _ px
    subst ev
    cases rx
    obtain ⟨its, rv, p, hz⟩ := I1.list (SqL.of_eq h1)
    refine wpAny_pyIter_list p.isList ?_
    refine ⟨s2.heap.objs.size, [s2.heap.objs.size], _, _, H1, rfl, I1.kept (t' := s2.toks) fun b o e => Heap.get?_push_of_some _ e, turn_list a _, ⟨_, Heap.get?_push_size _ rfl, rfl, rfl⟩, fun b hb => ?_, w1.of_pure _ H1 e1 S1.cap (it_list g.K hh)⟩
    have e : b = s2.heap.objs.size := by simpa using hb
    subst e
    exact I1.fpOk (Nat.le_refl _) (I1.hok.fresh (Nat.le_refl _))
  | tuple ds =>
    have w1 : Wp (pure ds) s1 _ _ := w1
    obtain ⟨a, xs, ev, h1, hh⟩ := SO.tup _ _ _ _ px
    subst ev
    cases rx
    obtain ⟨its, rv, p, hz⟩ := I1.tuple (by rw [g.K]; exact h1)
    refine wpAny_pyIter_tuple (show s2.heap.IsTuple a its.toArray from p) ?_
    refine ⟨s2.heap.objs.size, [s2.heap.objs.size], _, _, H1, rfl, I1.kept (t' := s2.toks) fun b o e => Heap.get?_push_of_some _ e, turn_tuple a _, ⟨_, Heap.get?_push_size _ rfl, rfl, rfl⟩, fun b hb => ?_, w1.of_pure _ H1 e1 S1.cap (it_tup g.K hh)⟩
    have e : b = s2.heap.objs.size := by simpa using hb
    subst e
    exact I1.fpOk (Nat.le_refl _) (I1.hok.fresh (Nat.le_refl _))
  | _ => exact w1.of_fail.elim
theorem boot_rangeX : bootBuiltins "range" = some (.type "range") := boot_range
theorem evs_wp {f : Expr → M D} : ∀ {es : List Expr} {s : DS} {Q : List D → DS → Prop} {E : Exc → DS → Prop}, Wp (evs f es) s Q E → Wp (evs f es) s (fun ds s' => ds.length = es.length ∧ Q ds s') E
  | [], s, Q, E, w => ⟨rfl, w.of_pure⟩
  | e :: es, s, Q, E, w => by
    unfold evs at w ⊢
    by_cases hn : notStar e = true
    · rw [if_pos hn] at w ⊢
      rw [Wp.bind_iff] at w ⊢
      refine w.mono (fun d s1 h1 => ?_) fun _ _ h => h
      rw [Wp.bind_iff] at h1 ⊢
      exact (evs_wp h1).mono (fun ds s2 ⟨hl, h2⟩ => ⟨by rw [List.length_cons, List.length_cons, hl], h2⟩) fun _ _ h => h
    · rw [if_neg hn] at w
      exact w.of_fail.elim
theorem in62_ok {i : Int} (h : in62 i = true) : -(2 ^ 62) ≤ i ∧ i < 2 ^ 62 := by
  unfold in62 at h
  simp only [Bool.and_eq_true, decide_eq_true_eq] at h
  exact h
/-- what iterC walks -/
theorem src_items (SO : SrcOk U Rl Src) {d : D} {ds : List D} {v : V} (hs : Src ow H d v) (he : itemsOf d = some ds) :
    (∃ a xs, v = .ref a ∧ H a = some (.lst xs) ∧ ∀ ow' H2, Rl ow H ow' H2 → H2 a = some (.lst xs) ∧ RpL U ow' H2 ds xs) ∨ (∃ a xs, v = .ref a ∧ SqT U.K H a xs ∧ ∀ ow' H2, Rl ow H ow' H2 → SqT U.K H2 a xs ∧ RpL U ow' H2 ds xs) := by
  cases d with
  | list es => cases he; exact .inl (SO.lst _ _ _ _ hs)
  | tuple es => cases he; exact .inr (SO.tup _ _ _ _ hs)
  | _ => cases he
theorem int_src (SO : SrcOk U Rl Src) {i : Int} {v : V} (hs : Src ow H (.int i) v) : v = .int i := (SO.pk _ _ _ _ hs).int
theorem tOfQA.stepL {f : St → Expr → M D} {args : List Expr} {β : Type} {kk : List D → M β} {σ : L2.St} {H0 : Hp} {ow0 : Ow} {σd : St} (S : SR U H0 ow0 ow σ H σd s) {Qb : β → DS → Prop} (w : Wp (evs (f σd) args >>= kk) s Qb (PostX U W σ H)) {R : List V → Hp → Prop}
    (h : ∀ d v H1 s1, d.length = args.length → Ext U H H1 → SR U H0 ow0 ow σ H1 σd s1 → SrcL Src ow H1 d v → Wp (kk d) s1 Qb (PostX U W σ H) → R v H1) : tOfQA U W Src (fun σ => evs (f σ) args) σ H R :=
  ⟨H0, ow0, ow, σd, s, S, (evs_wp w.of_bind).mono (fun d s1 ⟨hl, h1⟩ v H1 e c p => h d v H1 s1 hl e (S.ext e c) p h1) fun _ _ h => h⟩
theorem iterC_rng {xs : List D} : iterC ("range" : Str) xs = (match xs with
    | [.int n] => if in62 n = true then pure (rangeD 0 n.toNat) else fail
    | [.int a, .int b] => if in62 a = true ∧ in62 b = true then pure (rangeD a (b - a).toNat) else fail
    | _ => fail) := by
  unfold iterC
  rw [if_pos rfl]
  all_goals rfl
theorem iterC_enum {xs : List D} : iterC ("enumerate" : Str) xs = (match xs with
    | [x] => match itemsOf x with
      | some ds => pure (enumD 0 ds)
      | none => fail
    | [x, .int k] => match itemsOf x with
      | some ds => if in62 k = true then pure (enumD k ds) else fail
      | none => fail
    | _ => fail) := by
  unfold iterC
  rw [if_neg (by decide), if_pos rfl]
  all_goals rfl
theorem iterC_zip {xs : List D} : iterC ("zip" : Str) xs = (match xs with
    | [.list ds, .list es] => pure (zipD ds es)
    | [.tuple ds, .tuple es] => pure (zipD ds es)
    | _ => fail) := by
  unfold iterC
  rw [if_neg (by decide), if_neg (by decide), if_pos rfl]
  all_goals rfl
/-- range(..), enumerate(..), zip(..) -/
theorem pi_call (g : Good U k Γ X W) (SO : SrcOk U Rl Src) {tg : Expr} {fn : Str} {p pos : Pos} {args : List Expr} {f : St → Expr → M D} (ha : ∀ e, PE X e (tOfQ U W Src (fun σ => f σ e))) (h1 : L2.Gl X fn) (h2 : X.mg fn = none)
    (hf : iterOk fn args tg = true) :
    PI X tg (.Call (.Name fn p) args [] pos) (tOfI U W (fun σ => do let xs ← evs (f σ) args; iterC fn xs) Rl) := by
  have pa := pa_evsQ SO ha args
  unfold iterOk at hf
  rw [Bool.and_eq_true] at hf
  obtain ⟨hn, hf⟩ := hf
  match args, hn, hf, pa with
  | [], _, hf, _ => simp at hf
  | [a], hn, hf, pa =>
    have hs : starEach [a] X.env = (false, eval a X.env) :: starEach [] X.env := starEach_ns (noStars_mem hn a List.mem_cons_self)
    by_cases e1 : fn = ("range" : Str)
    · subst e1
      refine PI.imp (pi_range1 h1 h2 pa hs) fun σ H R h => ?_
      obtain ⟨H0, ow0, ow, σd, s, S, w⟩ := h
      show tOfQA U W Src _ σ H _
      refine tOfQA.stepL S w fun ds vs H1 s1 hl e1 S1 sl w1 => ?_
      rw [iterC_rng] at w1
      split at w1
      · rename_i n
        obtain ⟨h62, w1⟩ := w1.of_guard
        obtain ⟨v, ev, hv⟩ := sl.one
        rw [int_src SO hv] at ev
        obtain ⟨b1, b2⟩ := in62_ok h62
        exact ⟨n, ev, b1, b2, w1.of_pure _ H1 e1 S1.cap it_rng⟩
      · simp at hl
      · exact w1.of_fail.elim
    · have e2 : fn = ("enumerate" : Str) ∧ isTup tg = true := by
        have : ¬ (fn = ("range" : Str)) := e1
        simp [this] at hf
        exact ⟨hf.2, hf.1⟩
      obtain ⟨e2, ht⟩ := e2
      subst e2
      cases tg with
      | Tuple elts kk tpos =>
        refine PI.imp (pi_enum1 h1 h2 pa hs (by rfl)) fun σ H R h => ?_
        obtain ⟨H0, ow0, ow, σd, s, S, w⟩ := h
        show tOfQA U W Src _ σ H _
        refine tOfQA.stepL S w fun ds vs H1 s1 hl e1 S1 sl w1 => ?_
        rw [iterC_enum] at w1
        split at w1
        · rename_i x
          split at w1
          · rename_i es he
            obtain ⟨v, ev, hv⟩ := sl.one
            rcases src_items SO hv he with ⟨a, xs, e3, h3, hh⟩ | ⟨a, xs, e3, h3, hh⟩
            · subst e3
              exact ⟨a, xs, ev, .inl ⟨SqL.of_eq h3, w1.of_pure _ H1 e1 S1.cap (it_enumL g.K hh)⟩⟩
            · subst e3
              exact ⟨a, xs, ev, .inr ⟨by rw [g.K]; exact h3, w1.of_pure _ H1 e1 S1.cap (it_enumT g.K hh)⟩⟩
          · exact w1.of_fail.elim
        · simp at hl
        · exact w1.of_fail.elim
      | _ => simp [isTup] at ht
  | [a, b], hn, hf, pa =>
    have hs : starEach [a, b] X.env = (false, eval a X.env) :: starEach [b] X.env := starEach_ns (noStars_mem hn a List.mem_cons_self)
    have hs2 : starEach [b] X.env = (false, eval b X.env) :: starEach [] X.env := starEach_ns (noStars_mem hn b (by simp))
    have hp : (backTo pos (starEach [b] X.env)).any (·.1) = false := plain_star fun e he => noStars_mem hn e (List.mem_cons_of_mem _ he)
    by_cases e1 : fn = ("range" : Str)
    · subst e1
      refine PI.imp (pi_range2 h1 h2 pa (by rw [hs, hs2]; rfl) hs2) fun σ H R h => ?_
      obtain ⟨H0, ow0, ow, σd, s, S, w⟩ := h
      show tOfQA U W Src _ σ H _
      refine tOfQA.stepL S w fun ds vs H1 s1 hl e1 S1 sl w1 => ?_
      rw [iterC_rng] at w1
      split at w1
      · simp at hl
      · rename_i i j
        obtain ⟨⟨h62, h63⟩, w1⟩ := w1.of_guard
        obtain ⟨v, u, ev, hv, hu⟩ := sl.two
        rw [int_src SO hv, int_src SO hu] at ev
        obtain ⟨b1, b2⟩ := in62_ok h62
        obtain ⟨b3, b4⟩ := in62_ok h63
        exact ⟨i, j, ev, ⟨b1, b2, b3, b4⟩, w1.of_pure _ H1 e1 S1.cap it_rng⟩
      · exact w1.of_fail.elim
    · have e2 : isTup tg = true ∧ (fn = ("enumerate" : Str) ∨ fn = ("zip" : Str)) := by
        have : ¬ (fn = ("range" : Str)) := e1
        simp [this] at hf
        exact hf
      obtain ⟨ht, e2⟩ := e2
      cases tg with
      | Tuple elts kk tpos =>
        rcases e2 with e2 | e2
        · subst e2
          refine PI.imp (pi_enum2 h1 h2 pa hs hp) fun σ H R h => ?_
          obtain ⟨H0, ow0, ow, σd, s, S, w⟩ := h
          show tOfQA U W Src _ σ H _
          refine tOfQA.stepL S w fun ds vs H1 s1 hl e1 S1 sl w1 => ?_
          rw [iterC_enum] at w1
          split at w1
          · simp at hl
          · rename_i x n
            split at w1
            · rename_i es he
              obtain ⟨h62, w1⟩ := w1.of_guard
              obtain ⟨v, u, ev, hv, hu⟩ := sl.two
              rw [int_src SO hu] at ev
              obtain ⟨b1, b2⟩ := in62_ok h62
              rcases src_items SO hv he with ⟨a, xs, e3, h3, hh⟩ | ⟨a, xs, e3, h3, hh⟩
              · subst e3
                exact ⟨a, xs, n, ev, by omega, by omega, .inl ⟨SqL.of_eq h3, w1.of_pure _ H1 e1 S1.cap (it_enumL g.K hh)⟩⟩
              · subst e3
                exact ⟨a, xs, n, ev, by omega, by omega, .inr ⟨by rw [g.K]; exact h3, w1.of_pure _ H1 e1 S1.cap (it_enumT g.K hh)⟩⟩
            · exact w1.of_fail.elim
          · exact w1.of_fail.elim
        · subst e2
          refine PI.imp (RZ.pi_zipA h1 h2 pa hs hp) fun σ H R h => ?_
          obtain ⟨H0, ow0, ow, σd, s, S, w⟩ := h
          show tOfQA U W Src _ σ H _
          refine tOfQA.stepL S w fun ds vs H1 s1 hl e1 S1 sl w1 => ?_
          rw [iterC_zip] at w1
          split at w1
          · rename_i es fs
            obtain ⟨v, u, ev, hv, hu⟩ := sl.two
            obtain ⟨a, xs, e3, h3, hh⟩ := SO.lst _ _ _ _ hv
            obtain ⟨b, ys, e4, h4, hh4⟩ := SO.lst _ _ _ _ hu
            subst e3 e4
            exact ⟨a, b, xs, ys, ev, .inl ⟨SqL.of_eq h3, SqL.of_eq h4, w1.of_pure _ H1 e1 S1.cap (it_zipL g.K hh hh4)⟩⟩
          · rename_i es fs
            obtain ⟨v, u, ev, hv, hu⟩ := sl.two
            obtain ⟨a, xs, e3, h3, hh⟩ := SO.tup _ _ _ _ hv
            obtain ⟨b, ys, e4, h4, hh4⟩ := SO.tup _ _ _ _ hu
            subst e3 e4
            exact ⟨a, b, xs, ys, ev, .inr ⟨by rw [g.K]; exact h3, by rw [g.K]; exact h4, w1.of_pure _ H1 e1 S1.cap (it_zipT g.K hh hh4)⟩⟩
          · exact w1.of_fail.elim
      | _ => simp [isTup] at ht
  | a :: b :: c :: r, _, hf, _ => simp at hf
theorem fold_ok {e : Expr} {env : Env} (h : ∀ es j p, e ≠ .Set es j p) : ∀ x, foldedSetIterable e env x = pure x := by
  intro x
  cases e <;> first | rfl | exact absurd rfl (h _ _ _)
/-- what is walked -/
theorem pi_iterE (g : Good U k Γ X W) (go : GlOk U k G) (SO : SrcOk U Rl Src) {tg it : Expr} {f : St → Expr → M D} (ha : ∀ e, PE X e (tOfQ U W Src (fun σ => f σ e))) :
    PI X tg it (tOfI U W (fun σ => iterE G Γ (f σ) tg it) Rl) ∧ ((∀ x, foldedSetIterable it X.env x = pure x) ∨ ∀ σ, iterE G Γ (f σ) tg it = fail) := by
  have gen : ∀ e, (∀ σ, iterE G Γ (f σ) tg e = dataI (f σ e)) → PI X tg e (tOfI U W (fun σ => iterE G Γ (f σ) tg e) Rl) := fun e h => by
    have : (fun σ => iterE G Γ (f σ) tg e) = fun σ => dataI (f σ e) := funext h
    rw [this]
    exact pi_data g SO (ha e)
  by_cases hs : ∃ es j p, it = .Set es j p
  · obtain ⟨es, j, p, rfl⟩ := hs
    refine ⟨⟨fun pins s' σ H R I h => ?_⟩, .inr fun σ => rfl⟩
    obtain ⟨H0, ow0, ow, σd, s, S, w⟩ := h
    exact (show Wp fail s _ _ from w).of_fail.elim
  · refine ⟨?_, .inl (fold_ok fun es j p e => hs ⟨es, j, p, e⟩)⟩
    cases it with
    | Call fe args kws pos =>
      cases fe with
      | Name fn p =>
        cases kws with
        | nil =>
          by_cases hc : gname G Γ fn = true ∧ iterOk fn args tg = true
          · have : (fun σ => iterE G Γ (f σ) tg (.Call (.Name fn p) args [] pos)) = (fun σ => evs (f σ) args >>= fun xs => iterC fn xs) := by
              funext σ
              show (if gname G Γ fn = true ∧ iterOk fn args tg = true then _ else _) = _
              rw [if_pos hc]
            rw [this]
            obtain ⟨hg, hi⟩ := hc
            unfold gname at hg
            simp only [Bool.and_eq_true] at hg
            obtain ⟨k1, k2, k3, k4⟩ := gname_ok g go hg.1.1 hg.1.2 hg.2
            exact pi_call g SO ha k1 k2 hi
          · exact gen _ fun σ => by
              show (if gname G Γ fn = true ∧ iterOk fn args tg = true then _ else _) = _
              rw [if_neg hc]
        | cons kw kws => exact gen _ fun σ => rfl
      | _ => exact gen _ fun σ => rfl
    | Set es j p => exact absurd ⟨es, j, p, rfl⟩ hs
    | _ => exact gen _ fun σ => rfl
end
end Py

set_option Elab.async false
set_option linter.all false
set_option maxRecDepth 100000
set_option maxHeartbeats 1000000
namespace Py
open PySem PySem.Spec PyProof.Rows L2
section
variable {U : Wd} {k : Nat} {Γ : Cxt} {X : Cx} {W : WX} {G : Gs} {ow ow0 : Ow} {H H0 : Hp} {s : DS} {σ : L2.St} {σd : St}
theorem SR.set (S : SR U H0 ow0 ow σ H σd s) {i : Nat} {d : D} {v : V} (r : Rp U ow H d v) : SR U H0 ow0 ow (σ.set i (some v)) H (σd.set i (some (d, false))) s := by
  refine ⟨S.trk, S.capo, S.cello, S.own0, S.agr, S.base, fun j e o h => ?_, S.cap, by rw [List.length_set, List.length_set]; exact S.len⟩
  by_cases hj : i = j
  · subst hj
    by_cases hi : i < σd.length
    · rw [List.getElem?_set_self hi] at h
      cases h
      exact ⟨v, by rw [List.getElem?_set_self (by rw [← S.len]; exact hi)], fun _ => r, fun z => by cases z⟩
    · rw [List.getElem?_eq_none (by simpa using hi)] at h; cases h
  · rw [List.getElem?_set_ne hj] at h ⊢
    exact S.slots j e o h
/-- the slots but those at is stand as before -/
def SameBut (is : List Nat) (σ σ' : L2.St) : Prop := σ'.length = σ.length ∧ ∀ i, i ∉ is → σ'[i]? = σ[i]?
theorem SameBut.refl {is : List Nat} : SameBut is σ σ := ⟨rfl, fun _ _ => rfl⟩
theorem SameBut.trans {is js : List Nat} {σ' σ'' : L2.St} (a : SameBut is σ σ') (b : SameBut js σ' σ'') (h1 : ∀ i ∈ is, i ∈ js) : SameBut js σ σ'' := ⟨b.1.trans a.1, fun i hi => (b.2 i hi).trans (a.2 i fun z => hi (h1 i z))⟩
theorem SameBut.set {is : List Nat} {i : Nat} {v : Option V} (h : i ∈ is) : SameBut is σ (σ.set i v) := ⟨by rw [List.length_set], fun j hj => List.getElem?_set_ne (fun z => hj (by rw [← z]; exact h))⟩
theorem SameBut.wipe {is : List Nat} {σ' : L2.St} (a : SameBut is σ σ') : L2.wipe σ' is = L2.wipe σ is := by
  apply List.ext_getElem?
  intro i
  by_cases hi : i ∈ is
  · have key : ∀ (τ : L2.St) (js : List Nat), i ∈ js → (L2.wipe τ js)[i]? = if i < τ.length then some none else none := by
      intro τ js
      induction js with
      | nil => intro h; simp at h
      | cons j js ih =>
        intro h
        unfold L2.wipe
        by_cases hj : j = i
        · subst hj
          by_cases hl : j < τ.length
          · rw [List.getElem?_set_self (by rw [wipe_length]; exact hl), if_pos hl]
          · rw [if_neg hl, List.getElem?_eq_none (by rw [List.length_set, wipe_length]; omega)]
        · rw [List.getElem?_set_ne hj]
          exact ih ((List.mem_cons.mp h).resolve_left (fun z => hj z.symm))
    rw [key σ' is hi, key σ is hi, a.1]
  · rw [wipe_out hi, wipe_out hi]
    exact a.2 i hi
theorem setN_of {x : Str} {i : Nat} {d : D} (h : setI Γ x = some i) : setN Γ σd x d false = some (σd.set i (some (d, false))) := by
  unfold setI at h
  split at h
  · rename_i hc
    unfold setN
    rw [if_pos hc, h]
  · cases h
theorem bindNs_of : ∀ {es : List Expr} {is : List Nat} {ds : List D} {σd σd' : St}, idxs Γ es = some is → setAll σd is ds = some σd' → bindNs Γ σd es ds = some σd'
  | [], is, ds, σd, σd', h, hs => by
    cases h
    cases ds with
    | nil => unfold setAll at hs; unfold bindNs; exact hs
    | cons _ _ => unfold setAll at hs; cases hs
  | e :: es, is, ds, σd, σd', h, hs => by
    cases e with
    | Name x p =>
      unfold idxs at h
      cases h1 : setI Γ x with
      | none => rw [h1] at h; cases h
      | some i =>
        cases h2 : idxs Γ es with
        | none => rw [h1, h2] at h; cases h
        | some js =>
          rw [h1, h2] at h
          cases h
          cases ds with
          | nil => unfold setAll at hs; cases hs
          | cons d ds =>
            unfold setAll at hs
            unfold bindNs
            rw [setN_of h1]
            exact bindNs_of h2 hs
    | _ => unfold idxs at h; cases h
theorem bindT_to {tg : Expr} {d : D} {σd σd' : St} (h : bindT Γ σd tg d = some σd') : bindT0 Γ σd tg d = some σd' := by
  unfold bindT at h
  cases tg with
  | Name x p =>
    unfold tgIdx at h
    dsimp only at h
    cases h1 : setI Γ x with
    | none => rw [h1] at h; cases h
    | some i =>
      rw [h1] at h
      exact (setN_of h1).trans h
  | Tuple es j p =>
    unfold tgIdx at h
    dsimp only at h
    cases h1 : idxs Γ es with
    | none => rw [h1] at h; cases h
    | some is =>
      rw [h1] at h
      have h : (match itemsOf d with
        | some ds => setAll σd is ds
        | none => none) = some σd' := h
      unfold bindT0
      dsimp only
      cases hd : itemsOf d with
      | none => rw [hd] at h; cases h
      | some ds => rw [hd] at h; exact bindNs_of h1 h
  | _ => unfold tgIdx at h; cases h
/-- a target that names take -/
def gOf (U : Wd) (Γ : Cxt) (tg : Expr) (is : List Nat) : TG := fun v σ H Q => ∃ H0 ow0 ow σd s d σd', SR U H0 ow0 ow σ H σd s ∧ Rp U ow H d v ∧ bindT0 Γ σd tg d = some σd' ∧ ∀ σ', SR U H0 ow0 ow σ' H σd' s → SameBut is σ σ' → Q σ' H
def gsOf (U : Wd) (Γ : Cxt) (es : List Expr) (is : List Nat) : TGs := fun vs σ H Q => ∃ H0 ow0 ow σd s ds σd', SR U H0 ow0 ow σ H σd s ∧ RpL U ow H ds vs ∧ bindNs Γ σd es ds = some σd' ∧ ∀ σ', SR U H0 ow0 ow σ' H σd' s → SameBut is σ σ' → Q σ' H
theorem PG.imp {tg : Expr} {t t' : TG} (h : PG X tg t) (i : ∀ v σ H Q, t' v σ H Q → t v σ H Q) : PG X tg t' := ⟨fun pins s σ H v u Q I r q => h.run pins s σ H v u Q I r (i v σ H Q q)⟩
theorem PGs.imp {tg : List Expr} {t t' : TGs} (h : PGs X tg t) (i : ∀ v σ H Q, t' v σ H Q → t v σ H Q) : PGs X tg t' := ⟨fun pins s σ H v u Q I r q => h.run pins s σ H v u Q I r (i v σ H Q q)⟩
theorem setN_ok {x : Str} {d : D} {o : Bool} {σd' : St} (h : setN Γ σd x d o = some σd') : ∃ i, okName x = true ∧ (Γ.st.names.lookup x = some .local ∨ Γ.st.names.lookup x = some .cell) ∧ Γ.N.idxOf? x = some i ∧ Γ.N[i]? = some x ∧ σd' = σd.set i (some (d, o)) := by
  unfold setN at h
  split at h
  · rename_i hc
    split at h
    · rename_i i hi
      cases h
      exact ⟨i, hc.1, hc.2, hi, idxOf_get hi, rfl⟩
    · cases h
  · cases h
theorem loc_ok (g : Good U k Γ X W) {x : Str} (h : Γ.st.names.lookup x = some .local ∨ Γ.st.names.lookup x = some .cell) : L2.Loc X.env.scope x ∧ (X.fn x = true ∨ X.env.scope.names.lookup x = some .local) := by
  unfold L2.Loc
  rw [g.sc]
  rcases h with h | h
  · exact ⟨.inl (g.stl x h), .inr (g.stl x h)⟩
  · exact ⟨.inr (g.stc x h).1, .inl (g.stc x h).2⟩
theorem pg_nameI (g : Good U k Γ X W) {x : Str} {p : Pos} {is : List Nat} (hi : ∀ i, Γ.N.idxOf? x = some i → i ∈ is) : PG X (.Name x p) (gOf U Γ (.Name x p) is) := by
  by_cases hh : ∃ i, okName x = true ∧ (Γ.st.names.lookup x = some .local ∨ Γ.st.names.lookup x = some .cell) ∧ Γ.N.idxOf? x = some i
  · obtain ⟨i, hok, hl, hx⟩ := hh
    obtain ⟨h1, h2⟩ := loc_ok g hl
    refine PG.imp (pg_name (i := i) (by rw [g.N]; exact g.nd) (by rw [g.N]; exact idxOf_get hx) h1 h2) fun v σ H Q h => ?_
    obtain ⟨H0, ow0, ow, σd, s, d, σd', S, r, hb, q⟩ := h
    obtain ⟨j, _, _, hj, _, e⟩ := setN_ok (show setN Γ σd x d false = some σd' from hb)
    rw [hx] at hj; cases hj
    subst e
    exact q _ (S.set r) (SameBut.set (hi i hx))
  · refine ⟨fun pins s' σ H v u Q I r h => ?_⟩
    obtain ⟨H0, ow0, ow, σd, s, d, σd', S, r, hb, q⟩ := h
    obtain ⟨j, h1, h2, hj, _, e⟩ := setN_ok (show setN Γ σd x d false = some σd' from hb)
    exact absurd ⟨j, h1, h2, hj⟩ hh
theorem pgs_I (g : Good U k Γ X W) {is : List Nat} : ∀ (es : List Expr), (∀ x ∈ tgNames (.Tuple es 0 ⟨0, 0, 0, 0⟩), ∀ i, Γ.N.idxOf? x = some i → i ∈ is) → PGs X es (gsOf U Γ es is)
  | [], _ => PGs.imp pgs_nil fun vs σ H Q h => by
    obtain ⟨H0, ow0, ow, σd, s, ds, σd', S, r, hb, q⟩ := h
    cases ds with
    | nil =>
      unfold RpL at r
      unfold bindNs at hb
      cases hb
      exact ⟨r, q σ S SameBut.refl⟩
    | cons d ds => simp [bindNs] at hb
  | e :: es, hi => by
    cases e with
    | Name x p =>
      have hx : ∀ i, Γ.N.idxOf? x = some i → i ∈ is := hi x (by simp [tgNames])
      have hr := pgs_I g es fun y hy => hi y (by simp [tgNames] at hy ⊢; exact .inr hy)
      refine PGs.imp (pgs_cons (pg_nameI g hx) hr) fun vs σ H Q h => ?_
      obtain ⟨H0, ow0, ow, σd, s, ds, σd', S, r, hb, q⟩ := h
      cases ds with
      | nil => simp [bindNs] at hb
      | cons d ds =>
        unfold RpL at r
        obtain ⟨v, ys, e, r1, r2⟩ := r
        unfold bindNs at hb
        cases h1 : setN Γ σd x d false with
        | none => rw [h1] at hb; cases hb
        | some σ1 =>
          rw [h1] at hb
          exact ⟨v, ys, e, H0, ow0, ow, σd, s, d, σ1, S, r1, h1, fun σ' S' sb => ⟨H0, ow0, ow, σ1, s, ds, σd', S', r2, hb, fun σ'' S'' sb' => q σ'' S'' (sb.trans sb' fun _ z => z)⟩⟩
    | _ =>
      refine ⟨fun pins s' σ H v u Q I r h => ?_⟩
      obtain ⟨H0, ow0, ow, σd, s, ds, σd', S, r, hb, q⟩ := h
      cases ds <;> simp [bindNs] at hb
theorem assign_names {env : Env} : ∀ {es : List Expr} {xs : List Str}, namesOf es = some xs → (assignEach es env).length = es.length ∧ (assignEach es env).findIdx? (·.1) = none
  | [], _, _ => ⟨rfl, rfl⟩
  | e :: es, xs, h => by
    cases e with
    | Name x p =>
      unfold namesOf at h
      cases h1 : namesOf es with
      | none => rw [h1] at h; cases h
      | some ys =>
        obtain ⟨h2, h3⟩ := assign_names (env := env) h1
        constructor
        · show (assignEach es env).length + 1 = es.length + 1
          rw [h2]
        · show ((false, _) :: assignEach es env).findIdx? (·.1) = none
          rw [List.findIdx?_cons, h3]
          rfl
    | _ => simp [namesOf] at h
theorem bindNs_names : ∀ {es : List Expr} {ds : List D} {σd σd' : St}, bindNs Γ σd es ds = some σd' → ∃ xs, namesOf es = some xs
  | [], _, _, _, _ => ⟨[], rfl⟩
  | e :: es, ds, σd, σd', h => by
    cases e with
    | Name x p =>
      cases ds with
      | nil => simp [bindNs] at h
      | cons d ds =>
        unfold bindNs at h
        cases h1 : setN Γ σd x d false with
        | none => rw [h1] at h; cases h
        | some σ1 =>
          rw [h1] at h
          obtain ⟨ys, hy⟩ := bindNs_names (show bindNs Γ σ1 es ds = some σd' from h)
          exact ⟨x :: ys, by unfold namesOf; rw [hy]; rfl⟩
    | _ => cases ds <;> simp [bindNs] at h
theorem bindNs_len : ∀ {es : List Expr} {ds : List D} {σd σd' : St}, bindNs Γ σd es ds = some σd' → es.length = ds.length
  | [], [], _, _, _ => rfl
  | [], d :: ds, _, _, h => by simp [bindNs] at h
  | e :: es, ds, σd, σd', h => by
    cases e with
    | Name x p =>
      cases ds with
      | nil => simp [bindNs] at h
      | cons d ds =>
        unfold bindNs at h
        cases h1 : setN Γ σd x d false with
        | none => rw [h1] at h; cases h
        | some σ1 =>
          rw [h1] at h
          rw [List.length_cons, List.length_cons, bindNs_len (show bindNs Γ σ1 es ds = some σd' from h)]
    | _ => cases ds <;> simp [bindNs] at h
theorem ownOf_mem {tg : Expr} {x : Str} {i : Nat} (h : x ∈ tgNames tg) (hi : Γ.N.idxOf? x = some i) : i ∈ (ownOf Γ.N tg).map (·.2) := by
  unfold ownOf
  rw [List.mem_map]
  exact ⟨(x, i), List.mem_filterMap.mpr ⟨x, h, by rw [hi]; rfl⟩, rfl⟩
theorem pg_I (g : Good U k Γ X W) (tg : Expr) : PG X tg (gOf U Γ tg ((ownOf Γ.N tg).map (·.2))) := by
  cases tg with
  | Name x p => exact pg_nameI g fun i hi => ownOf_mem (by simp [tgNames]) hi
  | Tuple es j p =>
    cases hn : namesOf es with
    | none =>
      refine ⟨fun pins s' σ H v u Q I r h => ?_⟩
      obtain ⟨H0, ow0, ow, σd, s, d, σd', S, r, hb, q⟩ := h
      unfold bindT0 at hb
      dsimp only at hb
      split at hb
      · obtain ⟨xs, hx⟩ := bindNs_names hb
        rw [hn] at hx; cases hx
      · cases hb
    | some xs =>
      obtain ⟨h1, h2⟩ := assign_names (env := X.env) hn
      have hp := pgs_I g (is := (ownOf Γ.N (.Tuple es j p)).map (·.2)) es fun x hx i hi => ownOf_mem (by simpa [tgNames] using hx) hi
      have p1 := pg_tup (k := j) (pos := p) g.calm hp h1 h2
      have p2 := pg_lst (k := j) (pos := p) g.calm hp h1 h2
      refine ⟨fun pins s' σ H v u Q I rr h => ?_⟩
      obtain ⟨H0, ow0, ow, σd, s, d, σd', S, r, hb, q⟩ := h
      unfold bindT0 at hb
      dsimp only at hb
      split at hb
      · rename_i ds hd
        have hl := bindNs_len hb
        cases d with
        | list es' =>
          cases hd
          obtain ⟨a, ys, e1, h3, h4⟩ := Pk.list (.inl r)
          exact p2.run pins s' σ H v u Q I rr ⟨a, ys, e1, .inl (.inl h3), by rw [hl, h4.length], H0, ow0, ow, σd, s, ds, σd', S, h4, hb, q⟩
        | tuple es' =>
          cases hd
          obtain ⟨a, ys, e1, h3, h4⟩ := Pk.tuple (.inl r)
          exact p1.run pins s' σ H v u Q I rr ⟨a, ys, e1, by rw [g.K]; exact h3, by rw [hl, h4.length], H0, ow0, ow, σd, s, ds, σd', S, h4, hb, q⟩
        | _ => cases hd
      · cases hb
  | _ =>
    refine ⟨fun pins s' σ H v u Q I r h => ?_⟩
    obtain ⟨H0, ow0, ow, σd, s, d, σd', S, r, hb, q⟩ := h
    simp [bindT0] at hb
end
end Py

set_option Elab.async false
set_option linter.all false
set_option maxRecDepth 100000
set_option maxHeartbeats 1000000
namespace Py
open PySem PySem.Spec PyProof.Rows L2
section
variable {U : Wd} {k : Nat} {Γ : Cxt} {X : Cx} {W : WX} {G : Gs} {ow ow0 : Ow} {H H0 : Hp} {s : DS} {σ : L2.St} {σd : St}
/-- nothing leaves -/
def W0 : WX := fun _ _ _ _ => False
theorem good_blk (g : Good U k Γ X W) {s : Shared} {H : Hp} {scope : Scope} {C : Addr} {cl : List (Str × Addr)} {fp : List Addr} :
    Good U k ⟨Γ.N, L2.relS scope Γ.sc, scope⟩ (X.blk s H scope (compEnvC scope cl C X.env) fp) W0 where
  P := g.P
  w := g.w
  K := g.K
  mg := g.mg
  base := g.base
  N := g.N
  sc := by
    show relabel scope X.env = relS scope Γ.sc
    rw [← g.sc]
    rfl
  nd := g.nd
  calm := g.calm
  room := g.room
  tk := takes0
  stl := fun x h => lookup_relS_keep (sc := Γ.sc) (by decide) h
  stc := fun x h => ⟨lookup_relS_keep (sc := Γ.sc) (by decide) h, by
    show (scope.names.lookup x == some .cell) = true
    rw [h]
    rfl⟩
theorem SR.wipe (S : SR U H0 ow0 ow σ H σd s) (is : List Nat) : SR U H0 ow0 ow (L2.wipe σ is) H (Py.wipe σd is) s := by
  have hl : ∀ (is : List Nat), (Py.wipe σd is).length = σd.length := fun is => by
    induction is with
    | nil => rfl
    | cons i is ih => unfold Py.wipe; rw [List.length_set, ih]
  refine ⟨S.trk, S.capo, S.cello, S.own0, S.agr, S.base, fun j e o h => ?_, S.cap, by rw [hl, L2.wipe_length]; exact S.len⟩
  have key : ∀ (is : List Nat), (Py.wipe σd is)[j]? = some (some (e, o)) → σd[j]? = some (some (e, o)) ∧ j ∉ is := fun is => by
    induction is with
    | nil => intro h; exact ⟨h, by simp⟩
    | cons i is ih =>
      intro h
      unfold Py.wipe at h
      by_cases hi : i = j
      · subst hi
        by_cases hv : i < (Py.wipe σd is).length
        · rw [List.getElem?_set_self hv] at h; cases h
        · rw [List.getElem?_eq_none (by simpa using hv)] at h; cases h
      · rw [List.getElem?_set_ne hi] at h
        obtain ⟨h1, h2⟩ := ih h
        exact ⟨h1, by simp only [List.mem_cons, not_or]; exact ⟨fun z => hi z.symm, h2⟩⟩
  obtain ⟨h1, h2⟩ := key is h
  obtain ⟨v, h3, h4, h5⟩ := S.slots j e o h1
  exact ⟨v, by rw [wipe_out h2]; exact h3, h4, h5⟩
/-- the tests of a comprehension -/
theorem pts_I {f : St → Expr → M D} (hT : ∀ e, PT X e (tOfT U W (fun σ => tst (f σ) e))) : ∀ ifs : List Expr, PTs X ifs (tOfT U W (fun σ => ifsE (f σ) ifs))
  | [] => ⟨fun pins s' σ H Q I h => pts_nil.run pins s' σ H Q I (by
      obtain ⟨H0, ow0, ow, σd, s, S, w⟩ := h
      exact (show Wp (pure true) s _ _ from w).of_pure H Ext.refl S.cap)⟩
  | [c] => pts_one (hT c)
  | _ :: _ :: _ => ⟨fun pins s' σ H Q I h => by
      obtain ⟨H0, ow0, ow, σd, s, S, w⟩ := h
      exact (show Wp fail s _ _ from w).of_fail.elim⟩
theorem Wp.ex {α : Type} {m : M α} {s : DS} {Q : α → DS → Prop} (h : Wp m s Q fun _ _ => False) : ∃ a s', Q a s' := by
  unfold Wp at h
  split at h
  · exact ⟨_, _, h⟩
  · exact h.elim
  · exact h.elim
/-- what a comprehension makes, from the items at i on -/
theorem compL_wp {Γ : Cxt} {tg : Expr} {f : St → M Bool} {gg : St → M D} {items : List D} {Q : List D → DS → Prop} {E : Exc → DS → Prop} {d : D} (w : Wp (compL (fun d => bindT Γ σd tg d) f gg (d :: items)) s Q E) :
    ∃ σ', bindT Γ σd tg d = some σ' ∧ Wp (f σ') s (fun b s1 => if b = true then Wp (gg σ') s1 (fun y s2 => Wp (compL (fun d => bindT Γ σd tg d) f gg items) s2 (fun ys s3 => Q (y :: ys) s3) E) E else Wp (compL (fun d => bindT Γ σd tg d) f gg items) s1 Q E) E := by
  unfold compL at w
  have w := w.of_bind
  unfold lift at w
  cases hb : bindT Γ σd tg d with
  | none => rw [hb] at w; exact w.of_fail.elim
  | some σ' =>
    rw [hb] at w
    refine ⟨σ', rfl, w.of_pure.of_bind.mono (fun b s1 h => ?_) fun _ _ h => h⟩
    cases b with
    | true =>
      rw [if_pos rfl] at h ⊢
      exact h.of_bind.mono (fun y s2 h2 => h2.of_bind.mono (fun ys s3 h3 => h3.of_pure) fun _ _ h => h) fun _ _ h => h
    | false =>
      rw [if_neg (by decide)] at h ⊢
      exact h
/-- the new list is owned by none of the slots -/
def owD (ow : Ow) (D : Addr) : Ow := fun b => if b = D then some 0 else ow b
theorem SR.grownU (S : SR U H0 ow0 ow σ H σd s) {D : Addr} (hD : H D = none) {u0 : HO} (hu0 : ∀ xs, u0 ≠ .tup xs) {H' : Hp} {s' : DS} (e : Ext U H H') (c : Cap U H' s') (h' : H' D = some u0) : SR U H0 ow0 (owD ow D) σ H' σd s' := by
  have hc := S.nocap hD
  have hne : ∀ a u, H a = some u → a ≠ D := fun a u h => ne_of_none h hD
  have kp : Keep U ow (owD ow D) H H' := fun a u ha ho hu => ⟨e a u ha hu, by unfold owD; rw [if_neg (hne a u hu)]; exact ho⟩
  refine ⟨fun a h => ?_, ?_, ?_, fun a i h => ?_, fun a u h => ?_, S.base.trans e, fun j d o h => ?_, c, S.len⟩
  · by_cases hd : a = D
    · subst hd; exact ⟨_, h', hu0⟩
    · unfold owD at h
      rw [if_neg hd] at h
      obtain ⟨u, hu, ht⟩ := S.trk a h
      exact ⟨u, e a u (fun z => by rw [z] at h; exact h S.capo) hu, ht⟩
  · unfold owD; rw [if_neg (fun z => hc z.symm)]; exact S.capo
  · unfold owD
    rw [if_neg (fun z => by rw [← z, S.cap.cells] at hD; cases hD)]
    exact S.cello
  · unfold owD at h
    split at h
    · cases h
    · exact S.own0 a i h
  · unfold owD
    have hH : a ≠ D := fun z => by
      subst z
      rw [S.base a u hc h] at hD; cases hD
    rw [if_neg hH]
    exact S.agr a u h
  · obtain ⟨v, h1, h2, h3⟩ := S.slots j d o h
    refine ⟨v, h1, fun z => Rp.mono kp d v (h2 z), fun z => ?_⟩
    obtain ⟨a, u, e2, k1, k2, k3, r⟩ := h3 z
    exact ⟨a, u, e2, e a _ k3 k1, by unfold owD; rw [if_neg (hne a _ k1)]; exact k2, k3, Sh.mono kp r⟩
theorem SR.grown (S : SR U H0 ow0 ow σ H σd s) {D : Addr} (hD : H D = none) {acc : List V} {H' : Hp} {s' : DS} (e : Ext U H H') (c : Cap U H' s') (h' : H' D = some (.lst acc)) : SR U H0 ow0 (owD ow D) σ H' σd s' := S.grownU (u0 := .lst acc) hD (fun _ z => nomatch z) e c h'
theorem keepD {D : Addr} {H : Hp} {i : Option Nat} : Keep U (owD ow D) (fun b => if b = D then i else ow b) H H := fun a u _ ho e => ⟨e, by
  unfold owD at ho
  by_cases h : a = D
  · subst h; rw [if_pos rfl] at ho; cases ho
  · rw [if_neg h] at ho
    show (if a = D then i else ow a) = none
    rw [if_neg h]; exact ho⟩
/-- changing the new list leaves what is shared -/
theorem keepU {D : Addr} {H : Hp} {o : HO} : Keep U (owD ow D) (owD ow D) H (upd H D o) := fun a u _ ho e => by
  have : a ≠ D := fun z => by subst z; unfold owD at ho; rw [if_pos rfl] at ho; cases ho
  exact ⟨by rw [upd_ne this]; exact e, ho⟩
theorem comp_imp (g : Good U k Γ X W) {elt tg : Expr} {ifs : List Expr} {sc : Scope} {fi : St → M (List D)} {rec : St → Expr → M D} {σ : L2.St} {H : Hp} {Q : VK} (h : tOf U W (fun σ => do
      let items ← fi σ
      let ys ← compB rec ⟨Γ.N, L2.relS sc Γ.sc, sc⟩ (Py.wipe σ ((ownOf Γ.N tg).map (·.2))) tg ifs elt items
      if ys.length ≤ sline then pure (.list ys) else fail) isL σ H Q) :
    tLc (tOfI U W fi (RlE U)) (gOf U ⟨Γ.N, L2.relS sc Γ.sc, sc⟩ tg ((ownOf Γ.N tg).map (·.2))) (tOfT U W0 (fun σ => ifsE (rec σ) ifs)) (tOf U W0 (fun σ => rec σ elt) fun _ => false) ((ownOf Γ.N tg).map (·.2)) σ H Q := by
  obtain ⟨H0, ow0, ow, σd, s, S, w⟩ := h
  refine ⟨H0, ow0, ow, σd, s, S, w.of_bind.mono (fun items s1 h1 J H1 e1 c1 ito => ?_) fun _ _ h => h⟩
  intro Da hD
  have S1 := S.ext e1 c1
  have w1 := quiet_wp (show Wp (quiet _) s1 _ _ from h1.of_bind)
  refine ⟨fun i m H' => m = items.length - i ∧ i ≤ items.length ∧ ∃ acc ys si, H' Da = some (.lst acc) ∧ Ext U H1 H' ∧ Cap U H' si ∧ RpL U (owD ow Da) H' ys acc ∧
      Wp (compL (fun d => bindT ⟨Γ.N, L2.relS sc Γ.sc, sc⟩ (Py.wipe σd ((ownOf Γ.N tg).map (·.2))) tg d) (fun σ' => ifsE (rec σ') ifs) (fun σ' => rec σ' elt) (items.drop i)) si
        (fun zs s' => (ys ++ zs).length ≤ sline ∧ PostE U ow isL H Q (.list (ys ++ zs)) s') (fun _ _ => False), ⟨items.length, by simp, Nat.zero_le _, [], [], s1, upd_same, Ext.new hD, c1.new hD, RpL.nil, ?_⟩, ?_⟩
  · rw [List.drop_zero]
    exact w1.mono (fun zs s' h => by obtain ⟨hl, h⟩ := h.of_guard; exact ⟨by simpa using hl, by simpa using h.of_pure⟩) fun _ _ h => h
  · rintro i m H' ⟨rfl, hi', acc, ys, si, hDa, e', c', r, w'⟩
    have S2 := S1.grown hD e' c' hDa
    have hr : RlE U ow H1 (owD ow Da) H' := ⟨fun a u hu => by unfold owD; rw [if_neg (ne_of_none hu hD)], e'⟩
    obtain ⟨hgo, hstop⟩ := ito (owD ow Da) H' si hr S2.hk
    by_cases hlt : i < items.length
    · have hx : items[i]? = some items[i] := List.getElem?_eq_getElem hlt
      obtain ⟨go, hy⟩ := hgo i _ hx
      have hdr : items.drop i = items[i] :: items.drop (i + 1) := List.drop_eq_getElem_cons hlt
      rw [hdr] at w'
      refine .inr ⟨go, _, fun H'' z => ⟨items.length - (i + 1), by omega, rfl, hlt, z⟩, fun x H3 yl => ?_⟩
      obtain ⟨e3, c3, rx⟩ := hy x H3 yl
      have hD3 := e3 Da _ (S1.nocap hD) hDa
      have S3 : SR U H0 ow0 (owD ow Da) σ H3 σd si := S2.ext e3 c3
      obtain ⟨σ2d, hbT, w3⟩ := compL_wp w'
      refine ⟨H0, ow0, owD ow Da, _, si, items[i], σ2d, S3.wipe _, rx, bindT_to hbT, fun σ2 S4 sb => ⟨?_, ?_⟩⟩
      · rw [sb.wipe]
        exact (SameBut.wipe (σ := σ) (σ' := L2.wipe σ _) ⟨L2.wipe_length _ _, fun j hj => wipe_out hj⟩)
      · refine ⟨H0, ow0, owD ow Da, σ2d, si, S4, w3.mono (fun b s4 h4 H4 e4 c4 => ?_) fun _ _ z => z.elim⟩
        have hD4 := e4 Da _ (S1.nocap hD) hD3
        have r4 : RpL U (owD ow Da) H4 ys acc := (r.ext e3).ext e4
        have e14 : Ext U H1 H4 := (e'.trans e3).trans e4
        cases b with
        | false =>
          rw [if_neg (by decide)] at h4
          refine id ?_
          simp only [Bool.false_eq_true, if_false]
          exact ⟨acc, ys, s4, hD4, e14, c4, r4, h4⟩
        | true =>
          rw [if_pos rfl] at h4
          refine id ?_
          simp only [if_true]
          refine ⟨H0, ow0, owD ow Da, σ2d, s4, S4.ext e4 c4, h4.mono (fun y s5 h5 v5 H5 e5 c5 r5 _ => ?_) fun _ _ z => z.elim⟩
          have hD5 := e5 Da _ (S1.nocap hD) hD4
          have hlen : acc.length < sizeLine := by
            obtain ⟨zs, s6, h6⟩ := h5.ex
            have h7 : (ys ++ y :: zs).length ≤ sizeLine := h6.1
            have h8 := r4.length
            rw [List.length_append, List.length_cons] at h7
            omega
          refine ⟨acc, hD5, hlen, acc ++ [v5], ys ++ [y], s5, upd_same, fun a u ha hu => ?_, ?_, ?_, ?_⟩
          · rw [upd_ne (ne_of_none hu hD)]
            exact e5 a u ha (e14 a u ha hu)
          · exact ⟨by rw [upd_ne (fun z => S1.nocap hD z.symm)]; exact c5.row, by rw [upd_ne (fun z => by rw [← z, S1.cap.cells] at hD; cases hD)]; exact c5.cells, c5.ne⟩
          · exact RpL.mono keepU _ _ ((r4.ext e5).append (RpL.cons r5 RpL.nil))
          · exact h5.mono (fun zs s6 h6 => by simpa using h6) fun _ _ h => h
    · have hi2 : i = items.length := by omega
      subst hi2
      rw [List.drop_length] at w'
      obtain ⟨hl, q⟩ := (show Wp (pure []) si _ _ from w').of_pure
      rw [List.append_nil] at q
      refine .inl ⟨hstop, q (.ref Da) H' (e1.trans e') c' ?_ fun _ => ⟨Da, _, rfl, e1.none (S1.nocap hD) hD, hDa, S1.nocap hD, fun j => .inl ⟨ys, acc, rfl, rfl, RpL.mono keepD _ _ r⟩⟩⟩
      unfold Rp
      refine ⟨Da, acc, rfl, ⟨hDa, S1.noow hD, S1.nocap hD⟩, ?_⟩
      refine RpL.mono (fun a u _ ho e => ⟨e, ?_⟩) _ _ r
      unfold owD at ho
      by_cases h : a = Da
      · subst h; exact S1.noow hD
      · rw [if_neg h] at ho; exact ho
theorem pe_comp (g : Good U k Γ X W) {elt tg it : Expr} {ifs : List Expr} {sc : Scope} {pos : Pos} {fi : St → M (List D)} {rec : St → Expr → M D} (hi : PI X tg it (tOfI U W fi (RlE U))) (hs : ∀ x, foldedSetIterable it X.env x = pure x)
    (hb : L2.blkC Γ.N Γ.sc sc (ownOf Γ.N tg) = true)
    (hT : ∀ (Y : Cx), Good U k ⟨Γ.N, L2.relS sc Γ.sc, sc⟩ Y W0 → ∀ e, PT Y e (tOfT U W0 (fun σ => tst (rec σ) e)))
    (hE : ∀ (Y : Cx), Good U k ⟨Γ.N, L2.relS sc Γ.sc, sc⟩ Y W0 → ∀ e, PE Y e (tOf U W0 (fun σ => rec σ e) fun _ => false)) :
    PE X (.ListComp elt [⟨tg, it, ifs, 0⟩] sc pos) (tOf U W (fun σ => do
      let items ← fi σ
      let ys ← compB rec ⟨Γ.N, L2.relS sc Γ.sc, sc⟩ (Py.wipe σ ((ownOf Γ.N tg).map (·.2))) tg ifs elt items
      if ys.length ≤ sline then pure (.list ys) else fail) isL) := by
  have ok : BlkOk X.N X.env.scope sc (ownOf Γ.N tg) := by rw [g.N, g.sc]; exact blkOk_by hb
  exact PE.imp (pe_lc (g := gOf U ⟨Γ.N, L2.relS sc Γ.sc, sc⟩ tg ((ownOf Γ.N tg).map (·.2))) (tt := tOfT U W0 (fun σ => ifsE (rec σ) ifs)) (te := tOf U W0 (fun σ => rec σ elt) fun _ => false) g.calm (by rw [g.N]; exact g.nd) hi ok
    (fun s H C cl fp => pg_I (good_blk g) tg) (fun s H C cl fp => pts_I (hT _ (good_blk g)) ifs) (fun s H C cl fp => hE _ (good_blk g) elt) hs) fun σ H Q h => comp_imp g h
end
end Py

set_option Elab.async false
set_option linter.all false
set_option maxRecDepth 100000
set_option maxHeartbeats 1000000
/-! comprehensions of two walks -/
namespace Py
open PySem PySem.Spec PyProof.Rows L2
section
variable {U : Wd} {k : Nat} {Γ : Cxt} {X : Cx} {W : WX} {G : Gs} {H0 H H1 : Hp} {ow0 ow : Ow} {σ : L2.St} {σd : St} {s s1 : DS}
/-- only the new list has changed -/
theorem SR.regrown {D : Addr} (S : SR U H0 ow0 (owD ow D) σ H σd s) (h0 : H0 D = none) (hc : D ≠ U.cap) (hcl : D ≠ U.cell) {acc : List V} {H' : Hp} {s' : DS} (e : ∀ a u, a ≠ U.cap → a ≠ D → H a = some u → H' a = some u) (c : Cap U H' s') (h' : H' D = some (.lst acc)) : SR U H0 ow0 (owD ow D) σ H' σd s' := by
  have kp : Keep U (owD ow D) (owD ow D) H H' := fun a u ha ho hu => ⟨e a u ha (fun z => by subst z; unfold owD at ho; rw [if_pos rfl] at ho; cases ho) hu, ho⟩
  refine ⟨fun a h => ?_, S.capo, S.cello, S.own0, S.agr, fun a u ha hu => e a u ha (fun z => by rw [z, h0] at hu; cases hu) (S.base a u ha hu), fun j d o h => ?_, c, S.len⟩
  · by_cases hd : a = D
    · subst hd; exact ⟨_, h', fun xs z => nomatch z⟩
    · obtain ⟨u, hu, ht⟩ := S.trk a h
      exact ⟨u, e a u (fun z => by rw [z] at h; exact h S.capo) hd hu, ht⟩
  · obtain ⟨v, h1, h2, h3⟩ := S.slots j d o h
    refine ⟨v, h1, fun z => Rp.mono kp d v (h2 z), fun z => ?_⟩
    obtain ⟨a, u, e2, k1, k2, k3, r⟩ := h3 z
    refine ⟨a, u, e2, e a _ k3 (fun z => ?_) k1, k2, k3, Sh.mono kp r⟩
    subst z
    unfold owD at k2
    rw [if_pos rfl] at k2
    cases k2
/-- the rest of two walks -/
theorem compL2_wp {Γ : Cxt} {tg : Expr} {f : St → M Bool} {it : St → M (List D)} {vs : List Nat} {b2 : St → D → Option St} {f2 : St → M Bool} {gg : St → M D} {items : List D} {Q : List D → DS → Prop} {E : Exc → DS → Prop} {d : D} (w : Wp (compL2 (fun d => bindT Γ σd tg d) f it vs b2 f2 gg (d :: items)) s Q E) :
    ∃ σ', bindT Γ σd tg d = some σ' ∧ Wp (f σ') s (fun b s1 => if b = true then Wp (it σ') s1 (fun es s2 => Wp (compL (fun e => b2 (Py.wipe σ' vs) e) f2 gg es) s2 (fun ys s3 => Wp (compL2 (fun d => bindT Γ σd tg d) f it vs b2 f2 gg items) s3 (fun zs s4 => Q (ys ++ zs) s4) E) E) E else Wp (compL2 (fun d => bindT Γ σd tg d) f it vs b2 f2 gg items) s1 Q E) E := by
  unfold compL2 at w
  have w := w.of_bind
  unfold lift at w
  cases hb : bindT Γ σd tg d with
  | none => rw [hb] at w; exact w.of_fail.elim
  | some σ' =>
    rw [hb] at w
    refine ⟨σ', rfl, w.of_pure.of_bind.mono (fun b s1 h => ?_) fun _ _ h => h⟩
    cases b with
    | true =>
      rw [if_pos rfl] at h ⊢
      exact h.of_bind.mono (fun es s2 h2 => h2.of_bind.mono (fun ys s3 h3 => h3.of_bind.mono (fun zs s4 h4 => h4.of_pure) fun _ _ h => h) fun _ _ h => h) fun _ _ h => h
    | false =>
      rw [if_neg (by decide)] at h ⊢
      exact h
/-- heaps that differ at the new list alone -/
def ExtD (U : Wd) (D : Addr) (H H' : Hp) : Prop := ∀ a u, a ≠ U.cap → a ≠ D → H a = some u → H' a = some u
theorem RpL.extD {D : Addr} {H H' : Hp} (e : ExtD U D H H') {ds : List Py.D} {xs : List V} (r : RpL U (owD ow D) H ds xs) : RpL U (owD ow D) H' ds xs :=
  RpL.mono (fun a u ha ho hu => ⟨e a u ha (fun z => by subst z; unfold owD at ho; rw [if_pos rfl] at ho; cases ho) hu, ho⟩) _ _ r
theorem comp2_imp (g : Good U k Γ X W) {elt tg tg1 it1 : Expr} {ifs ifs1 : List Expr} {sc : Scope} {fi : St → M (List D)} {rec : St → Expr → M D} {σ : L2.St} {H : Hp} {Q : VK} (h : tOf U W (fun σ => do
      let items ← fi σ
      let ys ← compB2 G rec ⟨Γ.N, L2.relS sc Γ.sc, sc⟩ (Py.wipe σ ((own2 Γ.N tg tg1).map (·.2))) tg ifs tg1 it1 ifs1 elt items
      if ys.length ≤ sline then pure (.list ys) else fail) isL σ H Q) :
    tLc2 (tOfI U W fi (RlE U)) (gOf U ⟨Γ.N, L2.relS sc Γ.sc, sc⟩ tg ((ownOf Γ.N tg).map (·.2))) (tOfT U W0 (fun σ => ifsE (rec σ) ifs))
      (tOfI U W0 (fun σ => iterE G ⟨Γ.N, L2.relS sc Γ.sc, sc⟩ (rec σ) tg1 it1) (RlK U)) (gOf U ⟨Γ.N, L2.relS sc Γ.sc, sc⟩ tg1 ((ownOf Γ.N tg1).map (·.2))) (tOfT U W0 (fun σ => ifsE (rec σ) ifs1)) (tOf U W0 (fun σ => rec σ elt) fun _ => false) ((own2 Γ.N tg tg1).map (·.2)) ((ownOf Γ.N tg1).map (·.2)) σ H Q := by
  obtain ⟨H0, ow0, ow, σd, s, S, w⟩ := h
  refine ⟨H0, ow0, ow, σd, s, S, w.of_bind.mono (fun items s1 h1 J H1 e1 c1 ito => ?_) fun _ _ h => h⟩
  intro Da hD
  have S1 := S.ext e1 c1
  have hcap := S1.nocap hD
  have hcell : Da ≠ U.cell := fun z => by rw [z, S1.cap.cells] at hD; cases hD
  have h0D : H0 Da = none := by
    cases hh : H0 Da with
    | none => rfl
    | some u => rw [S1.base Da u hcap hh] at hD; cases hD
  have w1 := quiet_wp (show Wp (quiet _) s1 _ _ from h1.of_bind)
  -- what is left of the walks, ys being made
  let rest : List D → List D → M (List D) := fun items ys => compL2 (fun d => bindT ⟨Γ.N, L2.relS sc Γ.sc, sc⟩ (Py.wipe σd ((own2 Γ.N tg tg1).map (·.2))) tg d) (fun σ' => ifsE (rec σ') ifs) (fun σ' => iterE G ⟨Γ.N, L2.relS sc Γ.sc, sc⟩ (rec σ') tg1 it1) ((ownOf Γ.N tg1).map (·.2)) (fun σ d => bindT ⟨Γ.N, L2.relS sc Γ.sc, sc⟩ σ tg1 d) (fun σ' => ifsE (rec σ') ifs1) (fun σ' => rec σ' elt) items
  let Fin : List D → DS → Prop := fun zs s' => zs.length ≤ sline ∧ PostE U ow isL H Q (.list zs) s'
  refine ⟨fun i m H' => m = items.length - i ∧ i ≤ items.length ∧ ∃ acc ys si, H' Da = some (.lst acc) ∧ Ext U H1 H' ∧ Cap U H' si ∧ RpL U (owD ow Da) H' ys acc ∧
      Wp (rest (items.drop i) ys) si (fun zs s' => Fin (ys ++ zs) s') (fun _ _ => False), ⟨items.length, by simp, Nat.zero_le _, [], [], s1, upd_same, Ext.new hD, c1.new hD, RpL.nil, ?_⟩, ?_⟩
  · rw [List.drop_zero]
    exact w1.mono (fun zs s' h => by obtain ⟨hl, h⟩ := h.of_guard; exact ⟨by simpa using hl, by simpa using h.of_pure⟩) fun _ _ h => h
  · rintro i m H' ⟨rfl, hi', acc, ys, si, hDa, e', c', r, w'⟩
    have S2 := S1.grown hD e' c' hDa
    have hr : RlE U ow H1 (owD ow Da) H' := ⟨fun a u hu => by unfold owD; rw [if_neg (ne_of_none hu hD)], e'⟩
    obtain ⟨hgo, hstop⟩ := ito (owD ow Da) H' si hr S2.hk
    by_cases hlt : i < items.length
    · have hx : items[i]? = some items[i] := List.getElem?_eq_getElem hlt
      obtain ⟨go, hy⟩ := hgo i _ hx
      have hdr : items.drop i = items[i] :: items.drop (i + 1) := List.drop_eq_getElem_cons hlt
      rw [hdr] at w'
      refine .inr ⟨go, (fun H'' => ∃ acc ys si, H'' Da = some (.lst acc) ∧ Ext U H1 H'' ∧ Cap U H'' si ∧ RpL U (owD ow Da) H'' ys acc ∧
        Wp (rest (items.drop (i + 1)) ys) si (fun zs s' => Fin (ys ++ zs) s') (fun _ _ => False)), fun H'' z => ⟨items.length - (i + 1), by omega, rfl, hlt, z⟩, fun x H3 yl => ?_⟩
      obtain ⟨e3, c3, rx⟩ := hy x H3 yl
      have hD3 := e3 Da _ hcap hDa
      have S3 : SR U H0 ow0 (owD ow Da) σ H3 σd si := S2.ext e3 c3
      obtain ⟨σ2d, hbT, w3⟩ := compL2_wp w'
      have hsub : ∀ j ∈ (ownOf Γ.N tg).map (·.2), j ∈ (own2 Γ.N tg tg1).map (·.2) := fun j hj => by unfold own2; rw [List.map_append]; exact List.mem_append_left _ hj
      refine ⟨H0, ow0, owD ow Da, _, si, items[i], σ2d, S3.wipe _, rx, bindT_to hbT, fun σ2 S4 sb => ⟨?_, ?_⟩⟩
      · have sb2 := SameBut.trans (SameBut.refl (is := (ownOf Γ.N tg).map (·.2)) (σ := L2.wipe σ ((own2 Γ.N tg tg1).map (·.2)))) (SameBut.trans sb (SameBut.refl (is := (own2 Γ.N tg tg1).map (·.2))) hsub) hsub
        rw [sb2.wipe]
        exact (SameBut.wipe (σ := σ) (σ' := L2.wipe σ _) ⟨L2.wipe_length _ _, fun j hj => wipe_out hj⟩)
      · refine ⟨H0, ow0, owD ow Da, σ2d, si, S4, w3.mono (fun b s4 h4 H4 e4 c4 => ?_) fun _ _ z => z.elim⟩
        have hD4 := e4 Da _ hcap hD3
        have r4 : RpL U (owD ow Da) H4 ys acc := (r.ext e3).ext e4
        have e14 : Ext U H1 H4 := (e'.trans e3).trans e4
        cases b with
        | false =>
          rw [if_neg (by decide)] at h4
          refine id ?_
          simp only [Bool.false_eq_true, if_false]
          exact ⟨acc, ys, s4, hD4, e14, c4, r4, h4⟩
        | true =>
          rw [if_pos rfl] at h4
          refine id ?_
          simp only [if_true]
          refine ⟨H0, ow0, owD ow Da, σ2d, s4, S4.ext e4 c4, h4.mono (fun es s5 h5 J1 H5 e5 c5 ito1 => ?_) fun _ _ z => z.elim⟩
          have S5 : SR U H0 ow0 (owD ow Da) σ2 H5 σ2d s5 := (S4.ext e4 c4).ext e5 c5
          have hD5 := e5 Da _ hcap hD4
          refine ⟨fun j kk H' => kk = es.length - j ∧ j ≤ es.length ∧ ∃ acc ys si, H' Da = some (.lst acc) ∧ ExtD U Da H5 H' ∧ Ext U H1 H' ∧ Cap U H' si ∧ RpL U (owD ow Da) H' ys acc ∧
            Wp (compL (fun e => bindT ⟨Γ.N, L2.relS sc Γ.sc, sc⟩ (Py.wipe σ2d ((ownOf Γ.N tg1).map (·.2))) tg1 e) (fun σ' => ifsE (rec σ') ifs1) (fun σ' => rec σ' elt) (es.drop j)) si
              (fun us s3 => Wp (rest (items.drop (i + 1)) (ys ++ us)) s3 (fun zs s4 => Fin ((ys ++ us) ++ zs) s4) (fun _ _ => False)) (fun _ _ => False),
            ⟨es.length, by simp, Nat.zero_le _, acc, ys, s5, hD5, fun a u _ _ h => h, e14.trans e5, c5, r4.ext e5, ?_⟩, ?_⟩
          · rw [List.drop_zero]
            exact h5.mono (fun us s3 h => h.mono (fun zs s4 h => by rw [List.append_assoc]; exact h) fun _ _ h => h) fun _ _ h => h
          · rintro j kk H6 ⟨rfl, hj', acc6, ys6, s6, hD6, ed6, e16, c6, r6, w6⟩
            have S6 : SR U H0 ow0 (owD ow Da) σ2 H6 σ2d s6 := S5.regrown h0D hcap hcell ed6 c6 hD6
            have hr6 : RlK U (owD ow Da) H5 (owD ow Da) H6 := fun a u ha ho hu => ⟨ed6 a u ha (fun z => by subst z; unfold owD at ho; rw [if_pos rfl] at ho; cases ho) hu, ho⟩
            obtain ⟨hgo6, hstop6⟩ := ito1 (owD ow Da) H6 s6 hr6 S6.hk
            by_cases hlt6 : j < es.length
            · have hx6 : es[j]? = some es[j] := List.getElem?_eq_getElem hlt6
              obtain ⟨go6, hy6⟩ := hgo6 j _ hx6
              have hdr6 : es.drop j = es[j] :: es.drop (j + 1) := List.drop_eq_getElem_cons hlt6
              rw [hdr6] at w6
              refine .inr ⟨go6, _, fun H'' z => ⟨es.length - (j + 1), by omega, rfl, hlt6, z⟩, fun x H7 yl => ?_⟩
              obtain ⟨e7, c7, rx7⟩ := hy6 x H7 yl
              have hD7 := e7 Da _ hcap hD6
              have S7 : SR U H0 ow0 (owD ow Da) σ2 H7 σ2d s6 := S6.ext e7 c7
              obtain ⟨σ3d, hbT7, w7⟩ := compL_wp w6
              refine ⟨H0, ow0, owD ow Da, _, s6, es[j], σ3d, S7.wipe _, rx7, bindT_to hbT7, fun σ3 S8 sb => ⟨?_, ?_⟩⟩
              · rw [sb.wipe]
                exact (SameBut.wipe (σ := σ2) (σ' := L2.wipe σ2 _) ⟨L2.wipe_length _ _, fun j hj => wipe_out hj⟩)
              · refine ⟨H0, ow0, owD ow Da, σ3d, s6, S8, w7.mono (fun b s8 h8 H8 e8 c8 => ?_) fun _ _ z => z.elim⟩
                have hD8 := e8 Da _ hcap hD7
                have r8 : RpL U (owD ow Da) H8 ys6 acc6 := (r6.ext e7).ext e8
                have e18 : Ext U H1 H8 := (e16.trans e7).trans e8
                have ed8 : ExtD U Da H5 H8 := fun a u ha hd hu => e8 a u ha (e7 a u ha (ed6 a u ha hd hu))
                cases b with
                | false =>
                  rw [if_neg (by decide)] at h8
                  refine id ?_
                  simp only [Bool.false_eq_true, if_false]
                  exact ⟨acc6, ys6, s8, hD8, ed8, e18, c8, r8, h8⟩
                | true =>
                  rw [if_pos rfl] at h8
                  refine id ?_
                  simp only [if_true]
                  refine ⟨H0, ow0, owD ow Da, σ3d, s8, S8.ext e8 c8, h8.mono (fun y s9 h9 v9 H9 e9 c9 r9 _ => ?_) fun _ _ z => z.elim⟩
                  have hD9 := e9 Da _ hcap hD8
                  have hlen : acc6.length < sizeLine := by
                    obtain ⟨us, s10, h10⟩ := h9.ex
                    obtain ⟨zs, s11, h11⟩ := h10.ex
                    have h12 : ((ys6 ++ y :: us) ++ zs).length ≤ sizeLine := h11.1
                    have h13 := r8.length
                    rw [List.length_append, List.length_append, List.length_cons] at h12
                    omega
                  refine ⟨acc6, hD9, hlen, acc6 ++ [v9], ys6 ++ [y], s9, upd_same, fun a u ha hd hu => ?_, fun a u ha hu => ?_, ?_, ?_, ?_⟩
                  · rw [upd_ne hd]
                    exact e9 a u ha (ed8 a u ha hd hu)
                  · rw [upd_ne (ne_of_none hu hD)]
                    exact e9 a u ha (e18 a u ha hu)
                  · exact ⟨by rw [upd_ne (fun z => hcap z.symm)]; exact c9.row, by rw [upd_ne (fun z => hcell z.symm)]; exact c9.cells, c9.ne⟩
                  · exact RpL.mono keepU _ _ ((r8.ext e9).append (RpL.cons r9 RpL.nil))
                  · exact h9.mono (fun us s10 h10 => by simpa using h10) fun _ _ h => h
            · have hj2 : j = es.length := by omega
              subst hj2
              rw [List.drop_length] at w6
              have q := (show Wp (pure []) s6 _ _ from w6).of_pure
              rw [List.append_nil] at q
              exact .inl ⟨hstop6, acc6, ys6, s6, hD6, e16, c6, r6, q⟩
    · have hi2 : i = items.length := by omega
      subst hi2
      rw [List.drop_length] at w'
      obtain ⟨hl, q⟩ := (show Wp (pure []) si _ _ from w').of_pure
      rw [List.append_nil] at q
      refine .inl ⟨hstop, q (.ref Da) H' (e1.trans e') c' ?_ fun _ => ⟨Da, _, rfl, e1.none hcap hD, hDa, hcap, fun j => .inl ⟨ys, acc, rfl, rfl, RpL.mono keepD _ _ r⟩⟩⟩
      unfold Rp
      refine ⟨Da, acc, rfl, ⟨hDa, S1.noow hD, hcap⟩, ?_⟩
      refine RpL.mono (fun a u _ ho e => ⟨e, ?_⟩) _ _ r
      unfold owD at ho
      by_cases h : a = Da
      · subst h; exact S1.noow hD
      · rw [if_neg h] at ho; exact ho
theorem hv2 {N : List Str} {tg tg1 : Expr} : ∀ i ∈ (ownOf N tg1).map (·.2), i ∈ (own2 N tg tg1).map (·.2) := fun j hj => by
  unfold own2
  rw [List.map_append]
  exact List.mem_append_right _ hj
theorem fold2 {it1 : Expr} (h : isSet it1 = false) : ∀ env x, foldedSetIterable it1 env x = pure x := fun env => fold_ok fun es j p z => by subst z; cases h
theorem pe_comp2 (g : Good U k Γ X W) (go : GlOk U k G) {elt tg it tg1 it1 : Expr} {ifs ifs1 : List Expr} {sc : Scope} {pos : Pos} {fi : St → M (List D)} {rec : St → Expr → M D} (hi : PI X tg it (tOfI U W fi (RlE U))) (hs : ∀ x, foldedSetIterable it X.env x = pure x)
    (hb : L2.blkC Γ.N Γ.sc sc (own2 Γ.N tg tg1) = true) (hset : isSet it1 = false)
    (hT : ∀ (Y : Cx), Good U k ⟨Γ.N, L2.relS sc Γ.sc, sc⟩ Y W0 → ∀ e, PT Y e (tOfT U W0 (fun σ => tst (rec σ) e)))
    (hE : ∀ (Y : Cx), Good U k ⟨Γ.N, L2.relS sc Γ.sc, sc⟩ Y W0 → ∀ e, PE Y e (tOf U W0 (fun σ => rec σ e) fun _ => false)) :
    PE X (.ListComp elt [⟨tg, it, ifs, 0⟩, ⟨tg1, it1, ifs1, 0⟩] sc pos) (tOf U W (fun σ => do
      let items ← fi σ
      let ys ← compB2 G rec ⟨Γ.N, L2.relS sc Γ.sc, sc⟩ (Py.wipe σ ((own2 Γ.N tg tg1).map (·.2))) tg ifs tg1 it1 ifs1 elt items
      if ys.length ≤ sline then pure (.list ys) else fail) isL) := by
  have ok : BlkOk X.N X.env.scope sc (own2 Γ.N tg tg1) := by rw [g.N, g.sc]; exact blkOk_by hb
  have hq : ∀ (Y : Cx), Good U k ⟨Γ.N, L2.relS sc Γ.sc, sc⟩ Y W0 → ∀ e, PE Y e (tOfQ U W0 (Rp U) (fun σ => rec σ e)) := fun Y gY e => PE.imp (hE Y gY e) fun σ H Q h => by
    obtain ⟨H0, ow0, ow, σd, s, S, w⟩ := h
    exact ⟨H0, ow0, ow, σd, s, S, w.mono (fun d s' q v H' e c r _ => q v H' e c r) fun _ _ h => h⟩
  exact PE.imp (pe_lc2 (g := gOf U ⟨Γ.N, L2.relS sc Γ.sc, sc⟩ tg ((ownOf Γ.N tg).map (·.2))) (tt := tOfT U W0 (fun σ => ifsE (rec σ) ifs)) (wi1 := tOfI U W0 (fun σ => iterE G ⟨Γ.N, L2.relS sc Γ.sc, sc⟩ (rec σ) tg1 it1) (RlK U)) (g1 := gOf U ⟨Γ.N, L2.relS sc Γ.sc, sc⟩ tg1 ((ownOf Γ.N tg1).map (·.2))) (tt1 := tOfT U W0 (fun σ => ifsE (rec σ) ifs1)) (te := tOf U W0 (fun σ => rec σ elt) fun _ => false) g.calm (by rw [g.N]; exact g.nd) hi ok hv2
    (fun s H C cl fp => pg_I (good_blk g) tg) (fun s H C cl fp => pts_I (hT _ (good_blk g)) ifs)
    (fun s H C cl fp => (pi_iterE (good_blk g) go (srcK U) (f := fun σ => rec σ) (hq _ (good_blk g))).1)
    (fun s H C cl fp => pg_I (good_blk g) tg1) (fun s H C cl fp => pts_I (hT _ (good_blk g)) ifs1) (fun s H C cl fp => hE _ (good_blk g) elt) hs (fold2 hset)) fun σ H Q h => comp2_imp g h
end
end Py

set_option Elab.async false
set_option linter.all false
set_option maxRecDepth 100000
set_option maxHeartbeats 1000000
namespace Py
open PySem PySem.Spec PyProof.Rows L2
/-! written dicts -/
section
variable {U : Wd} {k : Nat} {Γ : Cxt} {X : Cx} {W : WX} {G : Gs} {H0 H H1 : Hp} {ow0 ow : Ow} {σ : L2.St} {σd : St} {s s1 : DS}
def trsOf (U : Wd) (W : WX) (f : St → Expr → M D) : List (Option Expr) → List Expr → List (TE × TE)
  | some k :: ks, v :: vs => (tOf U W (fun σ => f σ k) fun _ => false, tOf U W (fun σ => f σ v) fun _ => false) :: trsOf U W f ks vs
  | _, _ => []
theorem pps_all {f : St → Expr → M D} (hE : ∀ e, PE X e (tOf U W (fun σ => f σ e) fun _ => false)) {pos : Pos} : ∀ (ks : List (Option Expr)) (vs : List Expr), ks.all (·.isSome) = true → ks.length = vs.length → PPs X pos ks vs (trsOf U W f ks vs)
  | [], [], _, _ => pps_nil
  | none :: ks, _, h, _ => by cases h
  | some k :: ks, v :: vs, h, hl => pps_cons (hE k) (hE v) (pps_all hE ks vs (by simpa using h) (by simpa using hl))
  | [], _ :: _, _, hl => by cases hl
  | _ :: _, [], _, hl => by cases hl
/-- pairs as they come -/
def RpP (U : Wd) (ow : Ow) (H : Hp) : List (D × D) → List (V × V) → Prop
  | [], xs => xs = []
  | p :: ps, xs => ∃ a b ys, xs = (a, b) :: ys ∧ Rp U ow H p.1 a ∧ Rp U ow H p.2 b ∧ RpP U ow H ps ys
theorem RpP.ext {H' : Hp} (e : Ext U H H') : ∀ {ps : List (D × D)} {xs : List (V × V)}, RpP U ow H ps xs → RpP U ow H' ps xs
  | [], _, h => by unfold RpP at h ⊢; exact h
  | p :: ps, _, h => by
    unfold RpP at h ⊢
    obtain ⟨a, b, ys, e1, h1, h2, h3⟩ := h
    exact ⟨a, b, ys, e1, h1.ext e, h2.ext e, RpP.ext e h3⟩
theorem keyV {d : D} {kk : Key} {v : V} (h : Rp U ow H d v) (e : keyD d = some kk) : v = kV kk := by
  cases d with
  | int i => unfold keyD at e; cases e; unfold Rp at h; exact h
  | str i => unfold keyD at e; cases e; unfold Rp at h; exact h
  | _ => cases e
theorem RpP.dict : ∀ {ps : List (D × D)} {xs : List (V × V)}, RpP U ow H ps xs → dOk ps = true → ∃ kvs : List (Key × V), xs = kvs.map (fun kv => (kV kv.1, kv.2)) ∧ RpD U ow H ps kvs ∧ kvs.map (fun kv => some kv.1) = ps.map fun p => keyD p.1
  | [], _, h, _ => by unfold RpP at h; exact ⟨[], h, RpD.nil, rfl⟩
  | p :: ps, _, h, ho => by
    unfold RpP at h
    obtain ⟨a, b, ys, e1, h1, h2, h3⟩ := h
    unfold dOk at ho
    rw [List.all_cons, Bool.and_eq_true] at ho
    obtain ⟨kk, hk⟩ := Option.isSome_iff_exists.mp ho.1
    obtain ⟨kvs, e2, r, e3⟩ := RpP.dict h3 ho.2
    exact ⟨(kk, b) :: kvs, by rw [e1, keyV h1 hk, e2]; rfl, RpD.cons hk h2 r, by rw [List.map_cons, List.map_cons, hk, e3]⟩
theorem mergeK_new : ∀ (more acc : List (Key × V)), ((acc ++ more).map (·.1)).Nodup → mergeK acc more = acc ++ more
  | [], acc, _ => by rw [List.append_nil]; rfl
  | p :: more, acc, h => by
    have hk : valV acc p.1 = none := by
      unfold valV
      cases hf : acc.find? (fun kv => decide (kv.1 = p.1)) with
      | none => rfl
      | some q =>
        exfalso
        have h1 := List.find?_some hf
        have h2 := List.mem_of_find?_eq_some hf
        rw [List.map_append, List.nodup_append] at h
        exact h.2.2 q.1 (List.mem_map_of_mem h2) p.1 (by simp) (by simpa using h1)
    have e : putK acc p.1 p.2 = acc ++ [p] := putK_new p.2 hk
    have ih := mergeK_new more (acc ++ [p]) (by rw [List.append_assoc]; exact h)
    show mergeK (putK acc p.1 p.2) more = _
    rw [e, ih, List.append_assoc]
    rfl
theorem pairs_imp {f : St → Expr → M D} : ∀ (ks : List (Option Expr)) (vs : List Expr) {H1 : Hp} {s1 : DS} {R : List (V × V) → Hp → Prop} (_ : SR U H0 ow0 ow σ H1 σd s1) {Qd : List (D × D) → DS → Prop} {Qx : Exc → DS → Prop} (_ : Wp (evPairs (f σd) ks vs) s1 Qd Qx)
    (_ : ∀ x s', Qx x s' → PostX U W σ H1 x s') (_ : ∀ ps s', Qd ps s' → ∀ xs H2, Ext U H1 H2 → Cap U H2 s' → RpP U ow H2 ps xs → ps.length = ks.length → R xs H2), tPairs (trsOf U W f ks vs) σ H1 R
  | [], [], H1, s1, R, S, Qd, Qx, w, _, hq => by
    have w : Wp (pure [] : M (List (D × D))) s1 Qd Qx := w
    exact hq _ _ w.of_pure [] H1 Ext.refl S.cap (by unfold RpP; rfl) rfl
  | some k :: ks, v :: vs, H1, s1, R, S, Qd, Qx, w, hx, hq => by
    have w : Wp (do let x ← f σd k; let y ← f σd v; let r ← evPairs (f σd) ks vs; pure ((x, y) :: r)) s1 Qd Qx := w
    refine ⟨H0, ow0, ow, σd, s1, S, w.of_bind.mono (fun dk s2 w2 vk H2 e2 c2 r2 _ => ?_) fun x s' h => hx x s' h⟩
    refine ⟨H0, ow0, ow, σd, s2, S.ext e2 c2, w2.of_bind.mono (fun dv s3 w3 vv H3 e3 c3 r3 _ => ?_) fun x s' h => (hx x s' h).ext e2⟩
    refine pairs_imp ks vs ((S.ext e2 c2).ext e3 c3) w3.of_bind (fun x s' h => ((hx x s' h).ext e2).ext e3) fun ps s4 w4 xs H4 e4 c4 r4 hl4 => ?_
    exact hq _ _ w4.of_pure ((vk, vv) :: xs) H4 ((e2.trans e3).trans e4) c4 (by unfold RpP; exact ⟨vk, vv, xs, rfl, (r2.ext e3).ext e4, r3.ext e4, r4⟩) (by rw [List.length_cons, List.length_cons, hl4])
  | none :: _, _, _, _, _, _, _, _, w, _, _ => by
    have w : Wp (fail : M (List (D × D))) _ _ _ := w
    exact w.of_fail.elim
  | [], _ :: _, _, _, _, _, _, _, w, _, _ => by
    have w : Wp (fail : M (List (D × D))) _ _ _ := w
    exact w.of_fail.elim
  | some _ :: _, [], _, _, _, _, _, _, w, _, _ => by
    have w : Wp (fail : M (List (D × D))) _ _ _ := w
    exact w.of_fail.elim
theorem pe_dict2 (g : Good U k Γ X W) {f : St → Expr → M D} (hE : ∀ e, PE X e (tOf U W (fun σ => f σ e) fun _ => false)) {ks : List (Option Expr)} {vs : List Expr} {pos : Pos} (hs : ks.length ≤ 15 ∧ ks.all (·.isSome) = true ∧ ks.length = vs.length) :
    PE X (.Dict ks vs pos) (tOf U W (fun σ => do let ps ← evPairs (f σ) ks vs; if dOk ps = true ∧ (ps.map fun p => keyD p.1).Nodup then pure (.dict ps) else fail) isL) := by
  obtain ⟨h15, hall, hl⟩ := hs
  by_cases h0 : ks = []
  · subst h0
    cases vs with
    | cons _ _ => cases hl
    | nil =>
      refine PE.imp pe_dnewK fun σ H Q h p np => ?_
      obtain ⟨H0, ow0, ow, σd, s, S, w⟩ := h
      have w : Wp (pure (.dict []) : M D) s _ _ := w
      have hc := S.nocap np
      refine w.of_pure (.ref p) _ (Ext.new np) (S.cap.new np) ?_ fun _ => ⟨p, _, rfl, np, upd_same, hc, fun i => .inr ⟨[], [], rfl, rfl, RpD.nil⟩⟩
      unfold Rp
      exact .inr ⟨p, [], rfl, .inl ⟨upd_same, S.noow np, hc⟩, RpD.nil⟩
  · refine PE.imp (pe_disp (pps_all hE ks vs hall hl) hall hl h0 h15) fun σ H Q h p np => ?_
    obtain ⟨H0, ow0, ow, σd, s, S, w⟩ := h
    have hc := S.nocap np
    have e1 : Ext U H (upd H p (.dK [])) := Ext.new np
    have S1 := S.grownU (u0 := .dK []) np (fun _ z => nomatch z) e1 (S.cap.new np) upd_same
    refine pairs_imp ks vs S1 w.of_bind (fun x s' h => h.ext e1) fun ps s' w' xs H2 e2 c2 r2 hl2 => ?_
    obtain ⟨⟨hok, hnd⟩, w'⟩ := w'.of_guard
    obtain ⟨kvs, ex, rd, ek⟩ := r2.dict hok
    have hp2 : H2 p = some (.dK []) := e2 p _ hc upd_same
    have hnd' : (List.map (fun kv : Key × V => kv.1) ([] ++ kvs)).Nodup := by
      rw [← ek] at hnd
      have h2 : ((kvs.map fun kv => kv.1).map some).Nodup := by rw [List.map_map]; exact hnd
      have h3 : (kvs.map fun kv => kv.1).Nodup := by
        rw [List.nodup_iff_pairwise_ne] at h2 ⊢
        rw [List.pairwise_map] at h2
        exact h2.imp fun h e => h (congrArg some e)
      exact h3
    have hm : mergeK [] kvs = kvs := by rw [mergeK_new kvs [] hnd']; rfl
    have hlen : kvs.length ≤ 15 := by
      rw [← rd.length, hl2]; exact h15
    refine ⟨hp2, kvs, ex, hlen, ?_⟩
    rw [hm]
    have kp : ∀ i : Option Nat, Keep U (owD ow p) (fun b => if b = p then i else ow b) H2 (upd H2 p (.dK kvs)) := fun i a u ha ho hu => by
      unfold owD at ho
      by_cases hap : a = p
      · subst hap; rw [if_pos rfl] at ho; cases ho
      · rw [if_neg hap] at ho
        exact ⟨by rw [upd_ne hap]; exact hu, by show (if a = p then i else ow a) = none; rw [if_neg hap]; exact ho⟩
    have kn : Keep U (owD ow p) ow H2 (upd H2 p (.dK kvs)) := fun a u ha ho hu => by
      unfold owD at ho
      by_cases hap : a = p
      · subst hap; rw [if_pos rfl] at ho; cases ho
      · rw [if_neg hap] at ho
        exact ⟨by rw [upd_ne hap]; exact hu, ho⟩
    refine w'.of_pure (.ref p) _ (fun a u ha hu => ?_) ⟨?_, ?_, c2.ne⟩ ?_ fun _ => ⟨p, _, rfl, np, upd_same, hc, fun i => .inr ⟨ps, kvs, rfl, rfl, RpD.mono (kp (some i)) _ _ rd⟩⟩
    · have hap : a ≠ p := ne_of_none hu np
      rw [upd_ne hap]
      exact e2 a u ha (e1 a u ha hu)
    · rw [upd_ne (fun z => hc z.symm)]; exact c2.row
    · rw [upd_ne (fun z => by rw [← z, S.cap.cells] at np; cases np)]; exact c2.cells
    · unfold Rp
      exact .inr ⟨p, kvs, rfl, .inl ⟨upd_same, S.noow np, hc⟩, RpD.mono kn _ _ rd⟩
end
end Py

set_option Elab.async false
set_option linter.all false
set_option maxRecDepth 100000
set_option maxHeartbeats 1000000
namespace Py
open PySem PySem.Spec PyProof.Rows L2
section
variable {U : Wd} {k : Nat} {Γ : Cxt} {X : Cx} {W : WX} {G : Gs} {ow ow0 : Ow} {H H0 : Hp} {s : DS}
theorem rngArg_ok {f : Str} {args rs : List Expr} (h : rngArg f args = some rs) : (f = ("list" : Str) ∨ f = ("tuple" : Str)) ∧ ∃ p pos, args = [.Call (.Name "range" p) rs [] pos] ∧ ((∃ a, rs = [a] ∧ notStar a = true) ∨ ∃ a b, rs = [a, b] ∧ notStar a = true ∧ notStar b = true) := by
  unfold rngArg at h
  split at h
  · split at h
    · rename_i c
      cases h
      obtain ⟨rfl, c1, c2⟩ := c
      exact ⟨c1, _, _, rfl, .inl ⟨_, rfl, c2⟩⟩
    · cases h
  · split at h
    · rename_i c
      cases h
      obtain ⟨rfl, c1, c2, c3⟩ := c
      exact ⟨c1, _, _, rfl, .inr ⟨_, _, rfl, c2, c3⟩⟩
    · cases h
  · cases h
theorem rg_ints (a b : Int) (n : Nat) (h : n = (b - a).toNat) : RpL U ow H (rangeD a n) (rgV a b) := by
  subst h
  have := RpL.ints (U := U) (ow := ow) (H := H) ((List.range (b - a).toNat).map fun i => a + (i : Nat))
  rw [List.map_map, List.map_map] at this
  exact this
/-- what is made of a range -/
theorem rng_end (hk : Hk U ow H s) {f : Str} {a b : Int} {n : Nat} {Q : VK} (hn : n = (b - a).toNat) (h1 : in62 a = true) (h2 : in62 b = true) {H1 : Hp} {s1 : DS} (S1 : Hk U ow H1 s1) (e1 : Ext U H H1)
    (hl : (rangeD a n).length ≤ sline) (w : PostE U ow (fun d => frB f && isL d) H Q (if f = ("list" : Str) then .list (rangeD a n) else .tuple (rangeD a n)) s1) :
    RgOk a b ∧ ∀ q, H1 q = none → (f = ("list" : Str) → Q (.ref q) (upd H1 q (.lst (rgV a b)))) ∧ (f = ("tuple" : Str) → Q (.ref q) (upd H1 q (.tup (rgV a b)))) := by
  obtain ⟨b1, b2⟩ := in62_ok h1
  obtain ⟨b3, b4⟩ := in62_ok h2
  have hz : (rangeD a n).length = n := by unfold rangeD; simp
  refine ⟨⟨b1, b2, b3, b4, ?_⟩, fun q hq => ⟨fun hf => ?_, fun hf => ?_⟩⟩
  · rw [hz] at hl
    have : sline = 2 ^ 24 := by decide
    omega
  · subst hf
    rw [if_pos rfl] at w
    exact S1.newL _ (rg_ints a b n hn) (w.ext e1) hq
  · subst hf
    rw [if_neg (by decide)] at w
    exact S1.newT _ (rg_ints a b n hn) (w.ext e1) rfl hq
theorem pe_lrg (g : Good U k Γ X W) (go : GlOk U k G) {h : Str} {args rs : List Expr} {p' pos : Pos} {f : St → Expr → M D} (hP : ∀ e, PE X e (tOfP U W (fun σ => f σ e))) (hr : rngArg h args = some rs) (h1 : L2.Gl X h) (h2 : X.mg h = none) :
    PE X (.Call (.Name h p') args [] pos) (tOf U W (fun σ => rngE G Γ (f σ) h rs) (fun d => frB h && isL d)) := by
  by_cases hg : gname G Γ "range" = true
  case neg => exact PE.fails fun σ => by unfold rngE; rw [if_neg hg]
  obtain ⟨hf, p, q, rfl, hrs⟩ := rngArg_ok hr
  have hg' : okName "range" = true ∧ kindG Γ.sc "range" = true ∧ G.bare "range" = true := by
    unfold gname at hg
    simp only [Bool.and_eq_true] at hg
    exact ⟨hg.1.1, hg.1.2, hg.2⟩
  have r1 : L2.Gl X ("range" : Str) := kindG_gl g hg'.2.1
  obtain ⟨_, r2, _, _⟩ := gname_ok g go hg'.1 hg'.2.1 hg'.2.2
  rcases hrs with ⟨a, rfl, na⟩ | ⟨a, b, rfl, na, nb⟩
  · have hs : starEach [a] X.env = (false, eval a X.env) :: starEach [] X.env := starEach_ns na
    have pr := prg_1 (pos := q) (p := p) r1 r2 (hP a) hs
    have fin : ∀ σ H Q, tOf U W (fun σ => rngE G Γ (f σ) h [a]) (fun d => frB h && isL d) σ H Q → tRg1 (tOfP U W fun σ => f σ a) σ H (fun a b H1 => RgOk a b ∧ ∀ q, H1 q = none → (h = ("list" : Str) → Q (.ref q) (upd H1 q (.lst (rgV a b)))) ∧ (h = ("tuple" : Str) → Q (.ref q) (upd H1 q (.tup (rgV a b))))) := fun σ H Q t => by
      obtain ⟨H0, ow0, ow, σd, s, S, w⟩ := t
      have w : Wp (rngE G Γ (f σd) h [a]) s _ _ := w
      unfold rngE at w
      rw [if_pos hg] at w
      unfold evs at w
      rw [if_pos na] at w
      refine ⟨H0, ow0, ow, σd, s, S, w.of_bind.of_bind.mono (fun d s1 w1 v H1 e1 c1 pk => ?_) fun _ _ z => z⟩
      have w1 := w1.of_bind.of_pure.of_pure.of_bind
      rw [iterC_rng] at w1
      cases d with
      | int n =>
        obtain ⟨h62, w1⟩ := w1.of_guard
        obtain ⟨hl, w1⟩ := w1.of_pure.of_guard
        refine ⟨n, pk.int, ?_⟩
        exact rng_end S.hk (by rw [Int.sub_zero]) (by decide) h62 (S.ext e1 c1).hk e1 hl w1.of_pure
      | _ => exact w1.of_fail.elim
    rcases hf with rfl | rfl
    · exact PE.imp (pe_listRg g.calm h1 h2 pr (starEach_ns rfl)) fun σ H Q t => by
        obtain ⟨H0, ow0, ow, σd, s, S, w⟩ := fin σ H Q t
        exact ⟨H0, ow0, ow, σd, s, S, w.mono (fun d s1 z v H1 e c pk => by
          obtain ⟨n, e1, e2, e3⟩ := z v H1 e c pk
          exact ⟨n, e1, e2, fun q hq => (e3 q hq).1 rfl⟩) fun _ _ z => z⟩
    · exact PE.imp (pe_tupRg g.calm h1 h2 pr (starEach_ns rfl)) fun σ H Q t => by
        obtain ⟨H0, ow0, ow, σd, s, S, w⟩ := fin σ H Q t
        exact ⟨H0, ow0, ow, σd, s, S, w.mono (fun d s1 z v H1 e c pk => by
          obtain ⟨n, e1, e2, e3⟩ := z v H1 e c pk
          exact ⟨n, e1, e2, fun q hq => (e3 q hq).2 rfl⟩) fun _ _ z => z⟩
  · have hs : starEach [a, b] X.env = (false, eval a X.env) :: starEach [b] X.env := starEach_ns na
    have hs2 : starEach [b] X.env = (false, eval b X.env) :: starEach [] X.env := starEach_ns nb
    have hp : (backTo q (starEach [b] X.env)).any (·.1) = false := plain_star fun e he => by simp at he; subst he; exact nb
    have pr := prg_2 (pos := q) (p := p) r1 r2 (hP a) (hP b) hs hs2 hp
    have fin : ∀ σ H Q, tOf U W (fun σ => rngE G Γ (f σ) h [a, b]) (fun d => frB h && isL d) σ H Q → tRg2 (tOfP U W fun σ => f σ a) (tOfP U W fun σ => f σ b) σ H (fun a b H1 => RgOk a b ∧ ∀ q, H1 q = none → (h = ("list" : Str) → Q (.ref q) (upd H1 q (.lst (rgV a b)))) ∧ (h = ("tuple" : Str) → Q (.ref q) (upd H1 q (.tup (rgV a b))))) := fun σ H Q t => by
      obtain ⟨H0, ow0, ow, σd, s, S, w⟩ := t
      have w : Wp (rngE G Γ (f σd) h [a, b]) s _ _ := w
      unfold rngE at w
      rw [if_pos hg] at w
      unfold evs at w
      rw [if_pos na] at w
      unfold evs at w
      rw [if_pos nb] at w
      refine ⟨H0, ow0, ow, σd, s, S, w.of_bind.of_bind.mono (fun d s1 w1 v H1 e1 c1 pk => ⟨H0, ow0, ow, σd, s1, S.ext e1 c1, w1.of_bind.of_bind.mono (fun d2 s2 w2 v2 H2 e2 c2 pk2 => ?_) fun x s' hx cls od H' e' => hx cls od H' (e1.trans e')⟩) fun _ _ z => z⟩
      have w1 := w2.of_bind.of_pure.of_pure.of_pure.of_bind
      rw [iterC_rng] at w1
      cases d with
      | int n =>
        cases d2 with
        | int m =>
          obtain ⟨h62, w1⟩ := w1.of_guard
          obtain ⟨hl, w1⟩ := w1.of_pure.of_guard
          refine ⟨n, m, pk.int, pk2.int, ?_⟩
          exact rng_end S.hk rfl h62.1 h62.2 ((S.ext e1 c1).ext e2 c2).hk (e1.trans e2) hl w1.of_pure
        | _ => exact w1.of_fail.elim
      | _ => exact w1.of_fail.elim
    rcases hf with rfl | rfl
    · exact PE.imp (pe_listRg g.calm h1 h2 pr (starEach_ns rfl)) fun σ H Q t => by
        obtain ⟨H0, ow0, ow, σd, s, S, w⟩ := fin σ H Q t
        exact ⟨H0, ow0, ow, σd, s, S, w.mono (fun d s1 z v H1 e c pk => by
          obtain ⟨H0', ow0', ow', σd', s', S', z'⟩ := z v H1 e c pk
          exact ⟨H0', ow0', ow', σd', s', S', z'.mono (fun d2 s2 z v2 H2 e c2 pk2 => by
            obtain ⟨n, m, q1, q2, e2, e3⟩ := z v2 H2 e c2 pk2
            exact ⟨n, m, q1, q2, e2, fun q hq => (e3 q hq).1 rfl⟩) fun _ _ z => z⟩) fun _ _ z => z⟩
    · exact PE.imp (pe_tupRg g.calm h1 h2 pr (starEach_ns rfl)) fun σ H Q t => by
        obtain ⟨H0, ow0, ow, σd, s, S, w⟩ := fin σ H Q t
        exact ⟨H0, ow0, ow, σd, s, S, w.mono (fun d s1 z v H1 e c pk => by
          obtain ⟨H0', ow0', ow', σd', s', S', z'⟩ := z v H1 e c pk
          exact ⟨H0', ow0', ow', σd', s', S', z'.mono (fun d2 s2 z v2 H2 e c2 pk2 => by
            obtain ⟨n, m, q1, q2, e2, e3⟩ := z v2 H2 e c2 pk2
            exact ⟨n, m, q1, q2, e2, fun q hq => (e3 q hq).2 rfl⟩) fun _ _ z => z⟩) fun _ _ z => z⟩
end
end Py

set_option Elab.async false
set_option linter.all false
set_option maxRecDepth 100000
set_option maxHeartbeats 1000000
namespace Py
open PySem PySem.Spec PyProof.Rows L2
section
variable {U : Wd} {k : Nat} {Γ : Cxt} {X : Cx} {W : WX} {G : Gs} {ow : Ow} {H : Hp} {s : DS}
theorem freshE_isL {m : Nat} {e : Expr} {d : D} (h : freshE G m e d = true) : isL d = true := by
  unfold freshE at h
  rw [Bool.and_eq_true] at h
  exact h.2
theorem freshE_frF {m : Nat} {e : Expr} {d : D} (h : freshE G m e d = true) : frF G m e = true := by
  unfold freshE at h
  rw [Bool.and_eq_true] at h
  exact h.1
theorem pe_con {e : Expr} {c : V} {d : D} {fr : D → Bool} (h : PE X e (tC c)) (r : ∀ ow H, Rp U ow H d c) (hf : fr d = false) : PE X e (tOf U W (fun _ => pure d) fr) := PE.imp h fun σ H Q q => by
  obtain ⟨H0, ow0, ow, σd, s, S, w⟩ := q
  exact postV S.hk (show Wp (pure d) s _ _ from w).of_pure (r _ _) hf
theorem PT.failsT {e : Expr} {f : St → M Bool} (h : ∀ σ, f σ = fail) : PT X e (tOfT U W f) := ⟨fun pins s' σ H Q I q => by
  obtain ⟨H0, ow0, ow, σd, s, S, w⟩ := q
  rw [h] at w
  exact w.of_fail.elim⟩
theorem tst_fail {f : Expr → M D} {e : Expr} (h : f e = fail) : tst f e = fail := by
  unfold tst
  split
  · rw [h]; rfl
  · rfl
theorem tOfQ_pk {f : St → M D} {σ : L2.St} {Q : VK} (h : tOfQ U W (Pk U) f σ H Q) : tOfP U W f σ H Q := h
theorem tstL {e : Expr} {F : St → Expr → M D} {σ : L2.St} {H : Hp} {Q : Bool → Hp → Prop} (hn : noIf e = true) (f : St → M D) (he : ∀ σ, F σ e = f σ) (q : tOfT U W (fun σ => tst (F σ) e) σ H Q) : tOfL U W f σ H Q := by
  obtain ⟨H0, ow0, ow, σd, s, S, w⟩ := q
  obtain ⟨_, w⟩ := tst_wp (show Wp (tst (F σd) e) s _ _ from w)
  rw [he] at w
  exact ⟨H0, ow0, ow, σd, s, S, w⟩
theorem tOf.to {F f : St → M D} {fr : D → Bool} {σ : L2.St} {H : Hp} {Q : VK} (he : ∀ σ, F σ = f σ) (q : tOf U W F fr σ H Q) : tOf U W f fr σ H Q := by
  rw [← funext he]; exact q
theorem PE.to {e : Expr} {F f : St → M D} {fr : D → Bool} (he : ∀ σ, F σ = f σ) (q : PE X e (tOf U W f fr)) : PE X e (tOf U W F fr) := by
  rw [funext he]; exact q
/-- one layer of the interpreter -/
theorem snd_F (go : GlOk U k G) (gf : FnsOk U k G) {rec : Cxt → St → Expr → M D} (h : Snd U k G rec) : Snd U k G (evF G rec) := by
  intro Γ X W g e
  have hE' : ∀ {Γ X W}, Good U k Γ X W → ∀ e, PE X e (tOf U W (fun σ => rec Γ σ e) fun _ => false) := fun g e => PE.weak ((h _ _ _ g e).1 0) (fun d z => by cases z)
  have hE := fun e => hE' g e
  have hT := fun e => (h Γ X W g e).2
  have hP : ∀ e, PE X e (tOfP U W (fun σ => evP G Γ σ (rec Γ σ) e)) := fun e => pe_evP g go (hE e)
  have fin : ∀ (e : Expr) (fr : D → Bool), PE X e (tOf U W (fun σ => evF G rec Γ σ e) fr) → (∀ m d, freshE G m e d = true → fr d = true) → (∀ whole, isTrue e X.env whole = (do let v ← whole; standAt e.pos; holding [v] (truthy v))) →
      (∀ m, PE X e (tOf U W (fun σ => evF G rec Γ σ e) (freshE G m e))) ∧ PT X e (tOfT U W (fun σ => tst (evF G rec Γ σ) e)) :=
    fun e fr a b c => ⟨fun m => PE.weak a (b m), pt_val2 (f := evF G rec Γ) a c⟩
  have bad : ∀ e : Expr, (∀ σ, evF G rec Γ σ e = fail) → (∀ m, PE X e (tOf U W (fun σ => evF G rec Γ σ e) (freshE G m e))) ∧ PT X e (tOfT U W (fun σ => tst (evF G rec Γ σ) e)) :=
    fun e hf => ⟨fun m => PE.fails hf, PT.failsT fun σ => tst_fail (hf σ)⟩
  have nof : ∀ (m : Nat) (d : D) (e : Expr), (∀ n ds, freshE G (n + 1) e (.list ds) = false) → freshE G m e d = true → False := fun m d e hn z => by
    cases m with
    | zero => cases freshE_frF z
    | succ m =>
      have h1 := freshE_frF z
      have h2 := hn m []
      unfold freshE at h2
      rw [h1] at h2
      cases h2
  cases e with
  | Constant c j p =>
    cases c with
    | int i => exact fin _ (fun _ => false) (pe_con pe_int (fun _ _ => Rp.int) rfl) (fun m d z => (nof m d _ (fun _ _ => rfl) z).elim) fun _ => rfl
    | bool i => exact fin _ (fun _ => false) (pe_con pe_bl (fun _ _ => Rp.bool) rfl) (fun m d z => (nof m d _ (fun _ _ => rfl) z).elim) fun _ => rfl
    | none => exact fin _ (fun _ => false) (pe_con pe_non (fun _ _ => Rp.none) rfl) (fun m d z => (nof m d _ (fun _ _ => rfl) z).elim) fun _ => rfl
    | str i => exact fin _ (fun _ => false) (pe_con pe_str (fun _ _ => Rp.str) rfl) (fun m d z => (nof m d _ (fun _ _ => rfl) z).elim) fun _ => rfl
    | _ => exact bad _ fun _ => rfl
  | Name x p => exact fin _ (fun _ => false) ((pe_load g go).2 _ fun _ => rfl) (fun m d z => (nof m d _ (fun _ _ => rfl) z).elim) fun _ => rfl
  | BinOp a op b p => exact fin _ isL (pe_bin2 g (hP a) (hP b)) (fun m d z => freshE_isL z) fun _ => rfl
  | UnaryOp op a p =>
    cases op with
    | USub => exact fin _ (fun _ => false) (pe_neg2 g (hE a)) (fun m d z => (nof m d _ (fun _ _ => rfl) z).elim) fun _ => rfl
    | Not => exact ⟨fun m => PE.weak (pe_not2 (f := rec Γ) g (hE a)) (fun d z => (nof m d _ (fun _ _ => rfl) z).elim), pt_not2 g (f := rec Γ) (hT a) fun σ => rfl⟩
    | _ => exact bad _ fun _ => rfl
  | BoolOp op es p =>
    by_cases hes : es = []
    · subst hes
      cases op <;> exact bad _ fun _ => rfl
    · cases op with
      | And => exact ⟨fun m => PE.weak (pe_andL g (f := rec Γ) hE es hes) (fun d z => (nof m d _ (fun _ _ => rfl) z).elim), PT.imp (pw_andL g (f := rec Γ) hT es hes).pt fun σ H Q q => tstL rfl (fun σ => andL (rec Γ σ) es) (fun _ => rfl) q⟩
      | Or => exact ⟨fun m => PE.weak (pe_orL g (f := rec Γ) hE es hes) (fun d z => (nof m d _ (fun _ _ => rfl) z).elim), PT.imp (pw_orL g (f := rec Γ) hT es hes).pt fun σ H Q q => tstL rfl (fun σ => orL (rec Γ σ) es) (fun _ => rfl) q⟩
  | Compare a ops bs p =>
    match ops, bs with
    | [op], [b] =>
      by_cases hm : behindInMarks op b = false
      · have he : ∀ σ, evF G rec Γ σ (.Compare a [op] [b] p) = cmp1 (evP G Γ σ (rec Γ σ) a) (evP G Γ σ (rec Γ σ) b) op := fun σ => by show (if _ then _ else _) = _; rw [if_pos hm]
        have c := pc_1 g (hP a) (hP b) (op := op) (pos := p) hm
        refine ⟨fun m => PE.weak (fr := fun _ => false) (PE.imp c.1 fun σ H Q q => ?_) (fun d z => (nof m d _ (fun _ _ => rfl) z).elim), PT.imp c.2 fun σ H Q q => tstL rfl _ he q⟩
        exact tOf.to he q
      · exact bad _ fun σ => by show (if _ then _ else _) = _; rw [if_neg hm]
    | [op, op'], [b, c] =>
      by_cases hm : lastMarks [op, op'] [b, c] = false
      · have he : ∀ σ, evF G rec Γ σ (.Compare a [op, op'] [b, c] p) = cmp2 (evP G Γ σ (rec Γ σ) a) (evP G Γ σ (rec Γ σ) b) (evP G Γ σ (rec Γ σ) c) op op' := fun σ => by show (if _ then _ else _) = _; rw [if_pos hm]
        have c := pc_2 g (hP a) (hP b) (hP c) (op := op) (op' := op') (pos := p) hm
        refine ⟨fun m => PE.weak (fr := fun _ => false) (PE.imp c.1 fun σ H Q q => ?_) (fun d z => (nof m d _ (fun _ _ => rfl) z).elim), PT.imp c.2 fun σ H Q q => tstL rfl _ he q⟩
        exact tOf.to he q
      · exact bad _ fun σ => by show (if _ then _ else _) = _; rw [if_neg hm]
    | [], _ => exact bad _ fun _ => rfl
    | [_], [] => exact bad _ fun _ => rfl
    | [_], _ :: _ :: _ => exact bad _ fun _ => rfl
    | [_, _], [] => exact bad _ fun _ => rfl
    | [_, _], [_] => exact bad _ fun _ => rfl
    | [_, _], _ :: _ :: _ :: _ => exact bad _ fun _ => rfl
    | [op, op', op2], [b, c, d] =>
      by_cases hm : lastMarks [op, op', op2] [b, c, d] = false
      · have he : ∀ σ, evF G rec Γ σ (.Compare a [op, op', op2] [b, c, d] p) = cmp3 (evP G Γ σ (rec Γ σ) a) (evP G Γ σ (rec Γ σ) b) (evP G Γ σ (rec Γ σ) c) (evP G Γ σ (rec Γ σ) d) op op' op2 := fun σ => by show (if _ then _ else _) = _; rw [if_pos hm]
        have c := pc_3 g (hP a) (hP b) (hP c) (hP d) (op := op) (op' := op') (op2 := op2) (pos := p) hm
        refine ⟨fun m => PE.weak (fr := fun _ => false) (PE.imp c.1 fun σ H Q q => ?_) (fun d z => (nof m d _ (fun _ _ => rfl) z).elim), PT.imp c.2 fun σ H Q q => tstL rfl _ he q⟩
        exact tOf.to he q
      · exact bad _ fun σ => by show (if _ then _ else _) = _; rw [if_neg hm]
    | [_, _, _], [] => exact bad _ fun _ => rfl
    | [_, _, _], [_] => exact bad _ fun _ => rfl
    | [_, _, _], [_, _] => exact bad _ fun _ => rfl
    | [_, _, _], _ :: _ :: _ :: _ :: _ => exact bad _ fun _ => rfl
    | _ :: _ :: _ :: _ :: _, _ => exact bad _ fun _ => rfl
  | IfExp c a b p =>
    refine ⟨fun m => ?_, PT.failsT fun σ => rfl⟩
    cases m with
    | zero => exact PE.weak (pe_if2 (f := rec Γ) (fr := fun _ => false) g (hT c) (hE a) (hE b) (fun _ z => z) (fun _ z => z)) (fun d z => by cases freshE_frF z)
    | succ m =>
      have hh : ∀ d, freshE G (m + 1) (.IfExp c a b p) d = true → freshE G m a d = true ∧ freshE G m b d = true := fun d z => by
        have h1 := freshE_isL z
        have h2 : (frF G m a && frF G m b) = true := freshE_frF z
        rw [Bool.and_eq_true] at h2
        unfold freshE
        rw [h1, h2.1, h2.2]
        exact ⟨rfl, rfl⟩
      exact pe_if2 (f := rec Γ) g (hT c) ((h Γ X W g a).1 m) ((h Γ X W g b).1 m) (fun d z => (hh d z).1) fun d z => (hh d z).2
  | Tuple es j p => exact fin _ (fun _ => false) (pe_tup2 g (pa_evs (f := rec Γ) hE es)) (fun m d z => (nof m d _ (fun _ _ => rfl) z).elim) fun _ => rfl
  | List es p => exact fin _ isL (pe_lst2 g (pa_evs (f := rec Γ) hE es)) (fun m d z => freshE_isL z) fun _ => rfl
  | Dict ks vs p =>
    by_cases hc : ks.length ≤ 15 ∧ ks.all (·.isSome) = true ∧ ks.length = vs.length
    · exact fin _ isL (PE.to (fun σ => by show (if _ then _ else _) = _; rw [if_pos hc]) (pe_dict2 (f := rec Γ) g hE hc)) (fun m d z => freshE_isL z) fun _ => rfl
    · exact bad _ fun σ => by show (if _ then _ else _) = _; rw [if_neg hc]
  | Subscript a i p =>
    cases i with
    | Slice lo hi st p2 =>
      cases st with
      | none => exact fin _ isL (pe_sl2 g (hP a) (po_2 (f := fun σ => evP G Γ σ (rec Γ σ)) hP lo) (po_2 (f := fun σ => evP G Γ σ (rec Γ σ)) hP hi)) (fun m d z => freshE_isL z) fun _ => rfl
      | some st =>
        cases lo with
        | none =>
          cases hi with
          | none =>
            by_cases hm : isM1 st = true
            · refine fin _ isL (PE.to (fun σ => ?_) (pe_rev2 g (hP a) hm)) (fun m d z => freshE_isL z) fun _ => rfl
              show (if _ then _ else _) = _
              rw [if_pos hm]
            · exact bad _ fun σ => by show (if _ then _ else _) = _; rw [if_neg hm]
          | some hi => exact fin _ (fun _ => false) (pe_ix2 g (hP a) (hP _) fun _ _ => rfl) (fun m d z => (nof m d _ (fun _ _ => rfl) z).elim) fun _ => rfl
        | some lo => exact fin _ (fun _ => false) (pe_ix2 g (hP a) (hP _) fun _ _ => rfl) (fun m d z => (nof m d _ (fun _ _ => rfl) z).elim) fun _ => rfl
    | _ => exact fin _ (fun _ => false) (pe_ix2 g (hP a) (hP _) fun _ _ => rfl) (fun m d z => (nof m d _ (fun _ _ => rfl) z).elim) fun _ => rfl
  | ListComp elt gens sc p =>
    match gens with
    | [⟨tg, it, ifs, .negSucc _⟩] => exact bad _ fun _ => rfl
    | [⟨tg, it, ifs, .ofNat (_ + 1)⟩] => exact bad _ fun _ => rfl
    | [⟨tg, it, ifs, .ofNat 0⟩] =>
      by_cases hb : L2.blkC Γ.N Γ.sc sc (ownOf Γ.N tg) = true
      · have he : (fun σ => evF G rec Γ σ (.ListComp elt [⟨tg, it, ifs, 0⟩] sc p)) = (fun σ => do
          let items ← iterE G Γ (evP G Γ σ (rec Γ σ)) tg it
          let ys ← compB (rec ⟨Γ.N, L2.relS sc Γ.sc, sc⟩) ⟨Γ.N, L2.relS sc Γ.sc, sc⟩ (Py.wipe σ ((ownOf Γ.N tg).map (·.2))) tg ifs elt items
          if ys.length ≤ sline then pure (.list ys) else fail) := funext fun σ => by show (if _ then _ else _) = _; rw [if_pos hb]
        have pi := pi_iterE (tg := tg) (it := it) g go (srcE U) (f := fun σ => evP G Γ σ (rec Γ σ)) hP
        refine fin _ isL ?_ (fun m d z => freshE_isL z) fun _ => rfl
        show PE X _ (tOf U W (fun σ => evF G rec Γ σ (.ListComp elt [⟨tg, it, ifs, 0⟩] sc p)) isL)
        rw [he]
        rcases pi.2 with hs | hs
        · exact pe_comp g pi.1 hs hb (fun Y gY e => (h _ Y W0 gY e).2) (fun Y gY e => hE' gY e)
        · exact PE.fails fun σ => by rw [hs]; rfl
      · exact bad _ fun σ => by show (if _ then _ else _) = _; rw [if_neg hb]
    | [] => exact bad _ fun _ => rfl
    | [⟨tg, it, ifs, .ofNat 0⟩, ⟨tg1, it1, ifs1, .ofNat 0⟩] =>
      by_cases hb : L2.blkC Γ.N Γ.sc sc (own2 Γ.N tg tg1) = true ∧ isSet it1 = false
      · have he : (fun σ => evF G rec Γ σ (.ListComp elt [⟨tg, it, ifs, 0⟩, ⟨tg1, it1, ifs1, 0⟩] sc p)) = (fun σ => do
          let items ← iterE G Γ (evP G Γ σ (rec Γ σ)) tg it
          let ys ← compB2 G (rec ⟨Γ.N, L2.relS sc Γ.sc, sc⟩) ⟨Γ.N, L2.relS sc Γ.sc, sc⟩ (Py.wipe σ ((own2 Γ.N tg tg1).map (·.2))) tg ifs tg1 it1 ifs1 elt items
          if ys.length ≤ sline then pure (.list ys) else fail) := funext fun σ => by show (if _ then _ else _) = _; rw [if_pos hb]
        have pi := pi_iterE (tg := tg) (it := it) g go (srcE U) (f := fun σ => evP G Γ σ (rec Γ σ)) hP
        refine fin _ isL ?_ (fun m d z => freshE_isL z) fun _ => rfl
        show PE X _ (tOf U W (fun σ => evF G rec Γ σ (.ListComp elt [⟨tg, it, ifs, 0⟩, ⟨tg1, it1, ifs1, 0⟩] sc p)) isL)
        rw [he]
        rcases pi.2 with hs | hs
        · exact pe_comp2 g go pi.1 hs hb.1 hb.2 (fun Y gY e => (h _ Y W0 gY e).2) (fun Y gY e => hE' gY e)
        · exact PE.fails fun σ => by rw [hs]; rfl
      · exact bad _ fun σ => by show (if _ then _ else _) = _; rw [if_neg hb]
    | [⟨_, _, _, .ofNat 0⟩, ⟨_, _, _, .negSucc _⟩] => exact bad _ fun _ => rfl
    | [⟨_, _, _, .ofNat 0⟩, ⟨_, _, _, .ofNat (_ + 1)⟩] => exact bad _ fun _ => rfl
    | [⟨_, _, _, .negSucc _⟩, _] => exact bad _ fun _ => rfl
    | [⟨_, _, _, .ofNat (_ + 1)⟩, _] => exact bad _ fun _ => rfl
    | g1 :: g2 :: _ :: _ => exact bad _ fun _ => by rcases g1 with ⟨_, _, _, (_ | _) | _⟩ <;> rcases g2 with ⟨_, _, _, (_ | _) | _⟩ <;> rfl
  | Call fe args kws p =>
    cases fe with
    | Name f p' =>
      cases kws with
      | cons _ _ => exact bad _ fun _ => rfl
      | nil =>
        by_cases hc : okName f = true ∧ kindG Γ.sc f = true
        case neg => exact bad _ fun σ => by show (if _ then _ else _) = _; rw [if_neg hc]
        obtain ⟨k1, k3, k4⟩ := okName_d hc.1
        have hgl : L2.Gl X f := kindG_gl g hc.2
        cases hbare : G.bare f with
        | true =>
          obtain ⟨_, hmg, _, _⟩ := gname_ok g go hc.1 hc.2 hbare
          by_cases hi : f = ("isinstance" : Str)
          · subst hi
            have badI : ∀ σ, evF G rec Γ σ (.Call (.Name "isinstance" p') args [] p) = isiE G Γ (evP G Γ σ (rec Γ σ)) args := fun σ => by
              show (if _ then _ else _) = _
              rw [if_pos hc, if_pos hbare, if_pos rfl]
              all_goals rfl
            have nofI : ∀ (m : Nat) (d : D), freshE G m (.Call (.Name "isinstance" p') args [] p) d = true → (fun _ : D => false) d = true := fun m d z => by
              refine (nof m d _ (fun n ds => ?_) z).elim
              show ((if G.bare _ = true then _ else _) && true) = false
              rw [if_pos hbare]
              rfl
            cases args with
            | nil => exact bad _ badI
            | cons a as =>
            cases as with
            | nil => exact bad _ badI
            | cons b cs =>
            cases cs with
            | cons c ds =>
              exact bad _ fun σ => by
                rw [badI]
                cases b with
                | Tuple es j p4 =>
                  rcases es with (_ | ⟨x1, (_ | ⟨x2, (_ | ⟨x3, xr⟩)⟩)⟩)
                  all_goals first | rfl | (cases x1 <;> first | rfl | (cases x2 <;> rfl))
                | _ => rfl
            | nil =>
            cases b with
            | Name t p2 =>
              by_cases ht : gname G Γ t = true ∧ notStar a = true ∧ (isiT t).isSome = true
              · exact fin _ (fun _ => false) (PE.to (fun σ => by rw [badI]; exact if_pos ht) (pe_isi2 g go (hP a) ht.2.1 hgl hmg ht.1 ht.2.2)) nofI fun _ => rfl
              · exact bad _ fun σ => by rw [badI]; exact if_neg ht
            | Tuple es j p4 =>
              cases es with
              | nil => exact bad _ badI
              | cons x1 xs =>
              cases xs with
              | nil => exact bad _ fun σ => by rw [badI]; cases x1 <;> rfl
              | cons x2 xr =>
              cases xr with
              | cons x3 xr => exact bad _ fun σ => by rw [badI]; cases x1 <;> first | rfl | (cases x2 <;> rfl)
              | nil =>
              cases x1 with
              | Name t p2 =>
                cases x2 with
                | Name t2 p3 =>
                  by_cases ht : (gname G Γ t = true ∧ gname G Γ t2 = true) ∧ notStar a = true ∧ (isiT t).isSome = true ∧ (isiT t2).isSome = true
                  · exact fin _ (fun _ => false) (PE.to (fun σ => by rw [badI]; exact if_pos ht) (pe_isiT2 g go (hP a) ht.2.1 hgl hmg ht.1.1 ht.1.2 ht.2.2.1 ht.2.2.2)) nofI fun _ => rfl
                  · exact bad _ fun σ => by rw [badI]; exact if_neg ht
                | _ => exact bad _ badI
              | _ => exact bad _ badI
            | _ => exact bad _ badI
          · cases hrg : rngArg f args with
            | some rs =>
              refine fin _ (fun d => frB f && isL d) (PE.to (fun σ => ?_) (pe_lrg (f := fun σ => evP G Γ σ (rec Γ σ)) g go hP hrg hgl hmg)) (fun m d z => ?_) fun _ => rfl
              · show (if _ then _ else _) = _
                rw [if_pos hc, if_pos hbare, if_neg hi, hrg]
              · have hil := freshE_isL z
                cases m with
                | zero => cases freshE_frF z
                | succ m =>
                    have z : (if G.bare f = true then frB f else match G.fns f with
                      | some fg => fg.fr && !fg.fl
                      | none => false) = true := freshE_frF z
                    rw [if_pos hbare] at z
                    rw [Bool.and_eq_true]
                    exact ⟨z, hil⟩
            | none =>
            by_cases hb : biN f = true ∧ noStars args = true
            · refine fin _ (fun d => frB f && isL d) (PE.to (fun σ => ?_) (pe_bi2 g (pa_evsP (f := fun σ => evP G Γ σ (rec Γ σ)) hP args) hb.2 hgl hmg k1 k4 hb.1 fun z σ => by rw [z]; rfl)) (fun m d z => ?_) fun _ => rfl
              · show (if _ then _ else _) = _
                rw [if_pos hc, if_pos hbare, if_neg hi, hrg]
                exact if_pos hb
              · have hil := freshE_isL z
                cases m with
                | zero => cases freshE_frF z
                | succ m =>
                    have z : (if G.bare f = true then frB f else match G.fns f with
                      | some fg => fg.fr && !fg.fl
                      | none => false) = true := freshE_frF z
                    rw [if_pos hbare] at z
                    rw [Bool.and_eq_true]
                    exact ⟨z, hil⟩
            · exact bad _ fun σ => by
                show (if _ then _ else _) = _
                rw [if_pos hc, if_pos hbare, if_neg hi, hrg]
                exact if_neg hb
        | false =>
          have hbare' : ¬ G.bare f = true := by rw [hbare]; simp
          cases hf : G.fns f with
          | none =>
            exact bad _ fun σ => by
              show (if _ then _ else _) = _
              rw [if_pos hc, if_neg hbare', hf]
          | some fg =>
            by_cases hn : noStars args = true
            case neg =>
              exact bad _ fun σ => by
                show (if _ then _ else _) = _
                rw [if_pos hc, if_neg hbare', hf]
                show (if _ then _ else _) = _
                rw [if_neg hn]
            by_cases hl : fg.fl = true
            · refine fin _ (fun _ => false) (PE.to (fun σ => ?_) (pe_defP g gf hf hn hgl k1 (pa_evsP (f := fun σ => evP G Γ σ (rec Γ σ)) hP args) fun z σ => by rw [z]; rfl)) (fun m d z => ?_) fun _ => rfl
              · show (if _ then _ else _) = _
                rw [if_pos hc, if_neg hbare', hf]
                show (if _ then _ else _) = _
                rw [if_pos hn, if_pos hl]
              · refine (nof m d _ (fun n ds => ?_) z).elim
                show ((if G.bare _ = true then _ else _) && true) = false
                rw [if_neg hbare', hf]
                show ((fg.fr && !fg.fl) && true) = false
                rw [hl, Bool.and_true, Bool.and_comm]; rfl
            · refine fin _ (fun d => fg.fr && isL d) (PE.to (fun σ => ?_) (pe_defS g gf hf hn hgl k1 (pa_evs (f := rec Γ) hE args) fun z σ => by rw [z]; rfl)) (fun m d z => ?_) fun _ => rfl
              · show (if _ then _ else _) = _
                rw [if_pos hc, if_neg hbare', hf]
                show (if _ then _ else _) = _
                rw [if_pos hn, if_neg hl]
              · have hil := freshE_isL z
                cases m with
                | zero => cases freshE_frF z
                | succ m =>
                    have z : (if G.bare f = true then frB f else match G.fns f with
                      | some fg => fg.fr && !fg.fl
                      | none => false) = true := freshE_frF z
                    rw [if_neg hbare', hf] at z
                    have z : (fg.fr && !fg.fl) = true := z
                    rw [Bool.and_eq_true] at z ⊢
                    exact ⟨z.1, hil⟩
    | Attribute o m q =>
      cases kws with
      | cons _ _ => exact bad _ fun _ => by rcases args with (_ | ⟨_, (_ | ⟨_, _⟩)⟩) <;> rfl
      | nil =>
      cases args with
      | nil => exact bad _ fun _ => rfl
      | cons e as =>
      cases as with
      | cons _ _ => exact bad _ fun _ => rfl
      | nil =>
        by_cases hc : (q.endLine == p.line) = true ∧ notStar e = true ∧ plainO o = true ∧ methN m = true
        · exact fin _ (fun _ => false) (PE.to (fun σ => by show (if _ then _ else _) = _; rw [if_pos hc]) (pe_meth1 g (hP o) (hP e) hc.2.1 hc.2.2.1 hc.1 hc.2.2.2)) (fun m d z => (nof m d _ (fun _ _ => rfl) z).elim) fun _ => rfl
        · exact bad _ fun σ => by show (if _ then _ else _) = _; rw [if_neg hc]
    | _ => exact bad _ fun _ => rfl
  | _ => exact bad _ fun _ => rfl
theorem snd_E (go : GlOk U k G) (gf : FnsOk U k G) : ∀ n, Snd U k G (evE G n)
  | 0 => fun Γ X W g e => ⟨fun m => PE.fails fun σ => rfl, PT.failsT fun σ => tst_fail rfl⟩
  | n + 1 => snd_F go gf (snd_E go gf n)
end
end Py

set_option Elab.async false
set_option linter.all false
set_option maxRecDepth 100000
set_option maxHeartbeats 1000000
namespace Py
open PySem PySem.Spec PyProof.Rows L2

/-- a list made since the entry -/
def FrR (U : Wd) (H0 : Hp) (ow : Ow) (H : Hp) (d : D) (v : V) : Prop := ∃ a u, v = .ref a ∧ H0 a = none ∧ H a = some u ∧ a ≠ U.cap ∧ Sh U (fun b => if b = a then some 0 else ow b) H d u
/-- what a flow promises -/
def PostF (U : Wd) (H0 : Hp) (ow0 : Ow) (Hk : Hp) (owk : Ow) (W : WX) (D : Ends) : Flow → DS → Prop
  | .nx σd, s => ∀ ow σ H, SR U H0 ow0 ow σ H σd s → Keep U owk ow Hk H → D.nx σ H
  | .brk σd, s => ∀ ow σ H, SR U H0 ow0 ow σ H σd s → Keep U owk ow Hk H → D.bk σ H
  | .ct σd, s => ∀ ow σ H, SR U H0 ow0 ow σ H σd s → Keep U owk ow Hk H → D.ct σ H
  | .ret d o, s => ∀ ow σ H σd v, SR U H0 ow0 ow σ H σd s → (o = false → Rp U ow H d v) → (o = true → FrR U H0 ow H d v) → D.rt v H
  | .rz x σd, s => ∀ ow σ H cls od, SR U H0 ow0 ow σ H σd s → XRep U H x cls od → W cls od σ H
def tOfS (U : Wd) (W : WX) (m : St → M Flow) : TS := fun D σ H => ∃ H0 ow0 Hk owk ow σd s, SR U H0 ow0 ow σ H σd s ∧ Keep U owk ow Hk H ∧ Wp (m σd) s (PostF U H0 ow0 Hk owk W D) fun _ _ => False
theorem Keep.trans {U : Wd} {a b c : Ow} {H H1 H2 : Hp} (h : Keep U a b H H1) (h' : Keep U b c H1 H2) : Keep U a c H H2 := fun x u hc ho e => by
  obtain ⟨e1, o1⟩ := h x u hc ho e
  exact h' x u hc o1 e1
theorem Keep.refl {U : Wd} {a : Ow} {H : Hp} : Keep U a a H H := fun _ _ _ ho e => ⟨e, ho⟩
/-- where one stands, in a def's body -/
structure GoodS (U : Wd) (k : Nat) (Γ : Cxt) (X : Cx) (W : WX) : Prop extends Good U k Γ X W where
  st : Γ.st = Γ.sc
  hp : PassesOwn (model X.prog X.w) X.A X.env X.xe
  stack : X.stack = X.env :: X.outer
  frame : X.env.frame = some X.env.locals
  fk : Γ.sc.kind = .function
section
variable {U : Wd} {k : Nat} {Γ : Cxt} {X : Cx} {W : WX} {G : Gs} {ow ow0 : Ow} {H H0 H1 : Hp} {s s1 : DS} {σ : L2.St} {σd : St} {D : Ends}
theorem PS.fails {e : Stmt} {m : St → M Flow} (h : ∀ σ, m σ = fail) : PS X e (tOfS U W m) := ⟨fun pins s σ H D I q => by
  obtain ⟨H0, ow0, Hk, owk, ow, σd, s, S, kk, w⟩ := q
  rw [h] at w
  exact w.of_fail.elim⟩
theorem PS.to {e : Stmt} {F f : St → M Flow} (he : ∀ σ, F σ = f σ) (q : PS X e (tOfS U W f)) : PS X e (tOfS U W F) := by
  rw [funext he]; exact q
/-- a slot given up -/
theorem SR.frz1 (S : SR U H0 ow0 ow σ H σd s) {i : Nat} {d : Py.D} {o : Bool} (h : σd[i]? = some (some (d, o))) : ∃ ow', SR U H0 ow0 ow' σ H (σd.set i (some (d, false))) s ∧ Keep U ow ow' H H := by
  obtain ⟨v, hv, h2, h3⟩ := S.slots i d o h
  have hi : i < σd.length := by
    by_cases z : i < σd.length
    · exact z
    · rw [List.getElem?_eq_none (by omega)] at h; cases h
  cases o with
  | false =>
    refine ⟨ow, ⟨S.trk, S.capo, S.cello, S.own0, S.agr, S.base, fun j e o' hj => ?_, S.cap, by rw [List.length_set]; exact S.len⟩, Keep.refl⟩
    by_cases hij : i = j
    · subst hij
      rw [List.getElem?_set_self hi] at hj
      cases hj
      exact ⟨v, hv, h2, fun z => nomatch z⟩
    · rw [List.getElem?_set_ne hij] at hj
      exact S.slots j e o' hj
  | true =>
    obtain ⟨a, u0, ev, ha, hoa, hc, r⟩ := h3 rfl
    have kp : Keep U ow (fun b => if b = a then none else ow b) H H := fun b u _ ho e => ⟨e, by
      show (if b = a then none else ow b) = none
      by_cases hb : b = a
      · rw [if_pos hb]
      · rw [if_neg hb]; exact ho⟩
    have le : ∀ b j, (if b = a then none else ow b) = some j → b ≠ a ∧ ow b = some j := fun b j z => by
      by_cases hb : b = a
      · rw [if_pos hb] at z; cases z
      · rw [if_neg hb] at z; exact ⟨hb, z⟩
    refine ⟨fun b => if b = a then none else ow b, ⟨fun b z => ?_, ?_, ?_, fun b j z => S.own0 b j (le b _ z).2, fun b u z => ?_, S.base, fun j e o' hj => ?_, S.cap, by rw [List.length_set]; exact S.len⟩, kp⟩
    · have z : (if b = a then none else ow b) ≠ none := z
      by_cases hb : b = a
      · rw [if_pos hb] at z; exact absurd rfl z
      · rw [if_neg hb] at z; exact S.trk b z
    · show (if U.cap = a then none else ow U.cap) = none
      rw [if_neg (fun z => hc z.symm)]; exact S.capo
    · show (if U.cell = a then none else ow U.cell) = none
      by_cases hb : U.cell = a
      · rw [if_pos hb]
      · rw [if_neg hb]; exact S.cello
    · show (if b = a then none else ow b) = ow0 b
      by_cases hb : b = a
      · subst hb
        rw [S.own0 b i hoa] at z; cases z
      · rw [if_neg hb]; exact S.agr b u z
    · by_cases hij : i = j
      · subst hij
        rw [List.getElem?_set_self hi] at hj
        cases hj
        refine ⟨v, hv, fun _ => ?_, fun z => nomatch z⟩
        rw [ev]
        rcases r with ⟨ds, xs, ed, eu, r⟩ | ⟨ds, xs, ed, eu, r⟩
        · subst ed eu
          unfold Rp
          exact ⟨a, xs, rfl, ⟨ha, by show (if a = a then none else ow a) = none; rw [if_pos rfl], hc⟩, RpL.mono kp _ _ r⟩
        · subst ed eu
          unfold Rp
          exact .inr ⟨a, xs, rfl, .inl ⟨ha, by show (if a = a then none else ow a) = none; rw [if_pos rfl], hc⟩, RpD.mono kp _ _ r⟩
      · rw [List.getElem?_set_ne hij] at hj
        obtain ⟨v', hv', k2, k3⟩ := S.slots j e o' hj
        refine ⟨v', hv', fun z => Rp.mono kp _ _ (k2 z), fun z => ?_⟩
        obtain ⟨a', u', e2, m1, m2, m3, m4⟩ := k3 z
        refine ⟨a', u', e2, m1, ?_, m3, Sh.mono kp m4⟩
        show (if a' = a then none else ow a') = some (j + 1)
        rw [if_neg (fun z => by subst z; rw [hoa] at m2; cases m2; exact hij rfl)]
        exact m2
theorem SR.frzI : ∀ (is : List Nat) {ow : Ow} {σd : St}, SR U H0 ow0 ow σ H σd s → ∃ ow', SR U H0 ow0 ow' σ H (Py.frz σd is) s ∧ Keep U ow ow' H H
  | [], ow, σd, S => ⟨ow, S, Keep.refl⟩
  | i :: is, ow, σd, S => by
    unfold Py.frz
    split
    · rename_i h
      obtain ⟨ow', S', k'⟩ := S.frz1 h
      obtain ⟨ow2, S2, k2⟩ := SR.frzI is S'
      exact ⟨ow2, S2, k'.trans k2⟩
    · exact SR.frzI is S
theorem SR.frz (xs : List Str) {ow : Ow} {σd : St} (S : SR U H0 ow0 ow σ H σd s) : ∃ ow', SR U H0 ow0 ow' σ H (freeze Γ σd xs) s ∧ Keep U ow ow' H H := SR.frzI _ S
/-- a new list stands in slot i and is its own -/
theorem SR.setOwn (S : SR U H0 ow0 ow σ H σd s) (e : Ext U H H1) (c : Cap U H1 s1) {i : Nat} {d : Py.D} {v : V} (rf : RF U ow H H1 d v) : ∃ ow', SR U H0 ow0 ow' (σ.set i (some v)) H1 (σd.set i (some (d, true))) s1 ∧ Keep U ow ow' H H1 := by
  obtain ⟨a, u0, ev, hn, ha, hc, r⟩ := rf
  have kp : Keep U ow (fun b => if b = a then some (i + 1) else ow b) H H1 := fun b u hb ho z => ⟨e b u hb z, by
    show (if b = a then some (i + 1) else ow b) = none
    rw [if_neg (ne_of_none z hn)]; exact ho⟩
  have h0 : H0 a = none := S.base.none hc hn
  refine ⟨fun b => if b = a then some (i + 1) else ow b, ⟨fun b z => ?_, ?_, ?_, fun b j z => ?_, fun b u z => ?_, S.base.trans e, fun j e' o' hj => ?_, c, by rw [List.length_set, List.length_set]; exact S.len⟩, kp⟩
  · have z : (if b = a then some (i + 1) else ow b) ≠ none := z
    by_cases hb : b = a
    · subst hb; exact ⟨_, ha, (r 0).notTup⟩
    · rw [if_neg hb] at z
      obtain ⟨u, hu, ht⟩ := S.trk b z
      exact ⟨u, e b u (fun q => by rw [q] at z; exact z S.capo) hu, ht⟩
  · show (if U.cap = a then some (i + 1) else ow U.cap) = none
    rw [if_neg (fun z => hc z.symm)]; exact S.capo
  · show (if U.cell = a then some (i + 1) else ow U.cell) = none
    rw [if_neg (ne_of_none S.cap.cells hn)]; exact S.cello
  · have z : (if b = a then some (i + 1) else ow b) = some (j + 1) := z
    by_cases hb : b = a
    · subst hb; exact h0
    · rw [if_neg hb] at z; exact S.own0 b j z
  · show (if b = a then some (i + 1) else ow b) = ow0 b
    rw [if_neg (ne_of_none z h0)]; exact S.agr b u z
  · by_cases hij : i = j
    · subst hij
      have hl : i < σd.length := by
        by_cases z : i < σd.length
        · exact z
        · rw [List.getElem?_eq_none (by rw [List.length_set]; omega)] at hj; cases hj
      rw [List.getElem?_set_self hl] at hj
      cases hj
      exact ⟨v, List.getElem?_set_self (by rw [← S.len]; exact hl), fun z => (nomatch z), fun _ => ⟨a, u0, ev, ha, by show (if a = a then some (i + 1) else ow a) = _; rw [if_pos rfl], hc, r (i + 1)⟩⟩
    · rw [List.getElem?_set_ne hij] at hj
      obtain ⟨v', hv', k2, k3⟩ := S.slots j e' o' hj
      refine ⟨v', by rw [List.getElem?_set_ne hij]; exact hv', fun z => Rp.mono kp _ _ (k2 z), fun z => ?_⟩
      obtain ⟨a', u', e2, m1, m2, m3, m4⟩ := k3 z
      refine ⟨a', u', e2, e a' _ m3 m1, ?_, m3, Sh.mono kp m4⟩
      show (if a' = a then some (i + 1) else ow a') = some (j + 1)
      rw [if_neg (ne_of_none m1 hn)]
      exact m2
/-- an own list, an own dict is changed -/
theorem SR.mutU (S : SR U H0 ow0 ow σ H σd s) {i : Nat} {d0 d' : Py.D} {a : Addr} {u' : HO} (hs : σd[i]? = some (some (d0, true))) (hv : σ[i]? = some (some (.ref a))) (ho : ow a = some (i + 1)) (hc : a ≠ U.cap) (r : Sh U ow H d' u') :
    SR U H0 ow0 ow σ (upd H a u') (σd.set i (some (d', true))) s ∧ Keep U ow ow H (upd H a u') := by
  have kp : Keep U ow ow H (upd H a u') := fun b u hb hob z => ⟨by rw [upd_ne (fun q => by subst q; rw [ho] at hob; cases hob)]; exact z, hob⟩
  have h0 : H0 a = none := S.own0 a i ho
  have hcell : U.cell ≠ a := fun z => by subst z; rw [S.cello] at ho; cases ho
  refine ⟨⟨fun b z => ?_, S.capo, S.cello, S.own0, S.agr, fun b u hb z => ?_, fun j e' o' hj => ?_, ⟨?_, ?_, S.cap.ne⟩, by rw [List.length_set]; exact S.len⟩, kp⟩
  · by_cases hb : b = a
    · subst hb; exact ⟨_, upd_same, r.notTup⟩
    · rw [upd_ne hb]; exact S.trk b z
  · rw [upd_ne (ne_of_none z h0)]; exact S.base b u hb z
  · by_cases hij : i = j
    · subst hij
      have hl : i < σd.length := by
        by_cases z : i < σd.length
        · exact z
        · rw [List.getElem?_eq_none (by omega)] at hs; cases hs
      rw [List.getElem?_set_self hl] at hj
      cases hj
      exact ⟨_, hv, fun z => (nomatch z), fun _ => ⟨a, u', rfl, upd_same, ho, hc, Sh.mono kp r⟩⟩
    · rw [List.getElem?_set_ne hij] at hj
      obtain ⟨v', hv', k2, k3⟩ := S.slots j e' o' hj
      refine ⟨v', hv', fun z => Rp.mono kp _ _ (k2 z), fun z => ?_⟩
      obtain ⟨a', u2, e2, m1, m2, m3, m4⟩ := k3 z
      exact ⟨a', u2, e2, by rw [upd_ne (fun q => by subst q; rw [ho] at m2; cases m2; exact hij rfl)]; exact m1, m2, m3, Sh.mono kp m4⟩
  · rw [upd_ne (fun z => hc z.symm)]; exact S.cap.row
  · rw [upd_ne hcell]; exact S.cap.cells
theorem SR.mut (S : SR U H0 ow0 ow σ H σd s) {i : Nat} {ds ds' : List Py.D} {a : Addr} {xs xs' : List V} (hs : σd[i]? = some (some (.list ds, true))) (hv : σ[i]? = some (some (.ref a))) (ha : H a = some (.lst xs)) (ho : ow a = some (i + 1)) (hc : a ≠ U.cap) (r : RpL U ow H ds' xs') :
    SR U H0 ow0 ow σ (upd H a (.lst xs')) (σd.set i (some (.list ds', true))) s ∧ Keep U ow ow H (upd H a (.lst xs')) := S.mutU hs hv ho hc (.inl ⟨ds', xs', rfl, rfl, r⟩)
/-- what a list that a name owns is -/
theorem ownL_ok {x : Str} {i : Nat} {ds : List Py.D} (h : ownL Γ σd x = some (i, ds)) : okName x = true ∧ slot Γ x = some i ∧ σd[i]? = some (some (.list ds, true)) := by
  unfold ownL at h
  split at h
  · rename_i hh
    split at h
    · rename_i j hj
      split at h
      · rename_i ds' hd
        cases h
        exact ⟨hh.1, hj, hd⟩
      · cases h
    · cases h
  · cases h
theorem SR.owned (S : SR U H0 ow0 ow σ H σd s) {i : Nat} {ds : List Py.D} (h : σd[i]? = some (some (.list ds, true))) : ∃ a xs, σ[i]? = some (some (.ref a)) ∧ H a = some (.lst xs) ∧ ow a = some (i + 1) ∧ a ≠ U.cap ∧ RpL U ow H ds xs := by
  obtain ⟨v, hv, _, h3⟩ := S.slots i _ _ h
  obtain ⟨a, u, ev, ha, ho, hc, r⟩ := h3 rfl
  obtain ⟨xs, eu, r2⟩ := r.list
  subst ev eu
  exact ⟨a, xs, hv, ha, ho, hc, r2⟩
theorem ownD_ok {x : Str} {i : Nat} {ds : List (Py.D × Py.D)} (h : ownD Γ σd x = some (i, ds)) : okName x = true ∧ slot Γ x = some i ∧ σd[i]? = some (some (.dict ds, true)) := by
  unfold ownD at h
  split at h
  · rename_i hh
    split at h
    · rename_i j hj
      split at h
      · rename_i ds' hd
        cases h
        exact ⟨hh.1, hj, hd⟩
      · cases h
    · cases h
  · cases h
theorem SR.ownedD (S : SR U H0 ow0 ow σ H σd s) {i : Nat} {ds : List (Py.D × Py.D)} (h : σd[i]? = some (some (.dict ds, true))) : ∃ a xs, σ[i]? = some (some (.ref a)) ∧ H a = some (.dK xs) ∧ ow a = some (i + 1) ∧ a ≠ U.cap ∧ RpD U ow H ds xs := by
  obtain ⟨v, hv, _, h3⟩ := S.slots i _ _ h
  obtain ⟨a, u, ev, ha, ho, hc, r⟩ := h3 rfl
  obtain ⟨xs, eu, r2⟩ := r.dict
  subst ev eu
  exact ⟨a, xs, hv, ha, ho, hc, r2⟩
/-- stE by what the parts promise -/
theorem Wp.of_stE {α : Type} {m : M α} {σ : St} {kk : α → M Flow} {Q : Flow → DS → Prop} (w : Wp (stE m σ kk) s Q fun _ _ => False) : Wp m s (fun a s' => Wp (kk a) s' Q fun _ _ => False) fun x s' => Q (.rz x σ) s' := by
  unfold Wp at w ⊢
  unfold stE at w
  cases e : m s with
  | ok a s' => rw [e] at w; exact w
  | exc x s' => rw [e] at w; exact w
  | fail => rw [e] at w; exact w
theorem rzX (S : SR U H0 ow0 ow σ H σd s) {Hk : Hp} {owk : Ow} {x : Exc} {s' : DS} (q : PostF U H0 ow0 Hk owk W D (.rz x σd) s') : PostX U W σ H x s' := fun cls od H' e c r => q ow σ H' cls od (S.ext e c) r
end
end Py

set_option Elab.async false
set_option linter.all false
set_option maxRecDepth 100000
set_option maxHeartbeats 1000000
namespace Py
open PySem PySem.Spec PyProof.Rows L2
section
variable {U : Wd} {k : Nat} {Γ : Cxt} {X : Cx} {W : WX} {G : Gs} {ow ow0 : Ow} {H H0 H1 : Hp} {s s1 : DS} {σ : L2.St} {σd : St} {D : Ends} {ev : Cxt → St → Expr → M Py.D}
theorem nx1_wp {o : Option St} {Q : Flow → DS → Prop} {E : Exc → DS → Prop} (w : Wp (nx1 o) s Q E) : ∃ σ', o = some σ' ∧ Q (.nx σ') s := by
  unfold nx1 lift at w
  cases o with
  | none => exact w.of_fail.elim
  | some σ' => exact ⟨σ', rfl, w.of_pure⟩
theorem setOk_ok {x : Str} (h : setOk Γ x = true) : okName x = true ∧ (Γ.st.names.lookup x = some .local ∨ Γ.st.names.lookup x = some .cell) ∧ ∃ i, Γ.N.idxOf? x = some i := by
  unfold setOk at h
  simp only [Bool.and_eq_true] at h
  refine ⟨h.1.1, ?_, Option.isSome_iff_exists.mp h.2⟩
  have h2 := h.1.2
  split at h2
  · rename_i e; exact .inl e
  · rename_i e; exact .inr e
  · cases h2
theorem setN_i {x : Str} {i : Nat} {d : Py.D} {o : Bool} {σ' : St} (hi : Γ.N.idxOf? x = some i) (h : setN Γ σd x d o = some σ') : σ' = σd.set i (some (d, o)) := by
  obtain ⟨j, _, _, hj, _, e⟩ := setN_ok h
  rw [hi] at hj; cases hj
  exact e
theorem asg_imp {x : Str} {e : Expr} {i : Nat} (hi : Γ.N.idxOf? x = some i) (hok : setOk Γ x = true) (h : tOfS U W (fun σ => stAsg G ev Γ σ x e) D σ H) :
    tOf U W (fun σ => ev Γ σ e) (freshE G 40 e) σ H (fun v H1 => D.nx (σ.set i (some v)) H1) := by
  obtain ⟨H0, ow0, Hk, owk, ow, σd, s, S, kk, w⟩ := h
  have w : Wp (stAsg G ev Γ σd x e) s _ _ := w
  unfold stAsg at w
  rw [if_pos hok] at w
  have w := w.of_stE
  obtain ⟨ow', S', k'⟩ := S.frz (esc G Γ.sc 40 e) (Γ := Γ)
  refine ⟨H0, ow0, ow', _, s, S', w.mono (fun d s' q v H' e' c r rf => ?_) (fun x s' q => rzX S' q)⟩
  obtain ⟨σ', hs, q⟩ := nx1_wp q
  have hs := setN_i hi hs
  subst hs
  cases hf : freshE G 40 e d with
  | false =>
    rw [hf] at q
    exact q _ _ _ ((S'.ext e' c).set r) (kk.trans (k'.trans e'.keep))
  | true =>
    rw [hf] at q
    obtain ⟨ow2, S2, k2⟩ := S'.setOwn e' c (i := i) (rf hf)
    exact q _ _ _ S2 (kk.trans (k'.trans k2))
theorem asg_bad {x : Str} {e : Expr} {p pos : Pos} (hok : setOk Γ x ≠ true) : PS X (.Assign [.Name x p] e pos) (tOfS U W (fun σ => stAsg G ev Γ σ x e)) := PS.fails fun σ => by
  unfold stAsg; rw [if_neg hok]
theorem stE_fail {α : Type} {σ : St} {kk : α → M Flow} : stE (fail : M α) σ kk = fail := rfl
theorem asg_fail {x : Str} {e : Expr} {p pos : Pos} (h : ∀ σ, ev Γ σ e = fail) : PS X (.Assign [.Name x p] e pos) (tOfS U W (fun σ => stAsg G ev Γ σ x e)) := PS.fails fun σ => by
  unfold stAsg
  split
  · rw [h]; rfl
  · rfl
/-- x = e, stored behind the value -/
theorem ps_asg1 (g : GoodS U k Γ X W) {x : Str} {e : Expr} {p pos : Pos} (he : PE X e (tOf U W (fun σ => ev Γ σ e) (freshE G 40 e))) (hs : swapsWith e (some (.Name x p)) pos.line X.env = pure false) :
    PS X (.Assign [.Name x p] e pos) (tOfS U W (fun σ => stAsg G ev Γ σ x e)) := by
  by_cases hok : setOk Γ x = true
  · obtain ⟨h1, h2, i, hi⟩ := setOk_ok hok
    obtain ⟨l1, l2⟩ := loc_ok g.toGood h2
    exact PS.imp (ps_set (i := i) (by rw [g.N]; exact g.nd) (by rw [g.N]; exact idxOf_get hi) l1 he hs l2) fun D σ H h => asg_imp hi hok h
  · exact asg_bad hok
/-- x = [.. for ..] -/
theorem ps_asgC (g : GoodS U k Γ X W) (go : GlOk U k G) (gf : FnsOk U k G) {x : Str} {p pos spos : Pos} {elt tg it : Expr} {ifs : List Expr} {sc : Scope} {n : Nat} :
    PS X (.Assign [.Name x p] (.ListComp elt [⟨tg, it, ifs, 0⟩] sc spos) pos) (tOfS U W (fun σ => stAsg G (evE G (n + 1)) Γ σ x (.ListComp elt [⟨tg, it, ifs, 0⟩] sc spos))) := by
  have h := snd_E go gf n
  have hE' : ∀ {Γ X W}, Good U k Γ X W → ∀ e, PE X e (tOf U W (fun σ => evE G n Γ σ e) fun _ => false) := fun g e => PE.weak ((h _ _ _ g e).1 0) (fun d z => by cases z)
  have hE := fun e => hE' g.toGood e
  have hP : ∀ e, PE X e (tOfP U W (fun σ => evP G Γ σ (evE G n Γ σ) e)) := fun e => pe_evP g.toGood go (hE e)
  by_cases hok : setOk Γ x = true
  case neg => exact asg_bad hok
  by_cases hb : L2.blkC Γ.N Γ.sc sc (ownOf Γ.N tg) = true
  case neg => exact asg_fail fun σ => by show (if _ then _ else _) = _; rw [if_neg hb]
  obtain ⟨h1, h2, i, hi⟩ := setOk_ok hok
  obtain ⟨l1, l2⟩ := loc_ok g.toGood h2
  have pi := pi_iterE (tg := tg) (it := it) g.toGood go (srcE U) (f := fun σ => evP G Γ σ (evE G n Γ σ)) hP
  rcases pi.2 with hsf | hsf
  case inr =>
    exact asg_fail fun σ => by
      show (if _ then _ else _) = _
      rw [if_pos hb, hsf]
      rfl
  by_cases hsw : (X.env.blockKind == .function && X.env.kindOf x == some .local && p.line == spos.line && !(sc.names.any fun (n, k) => n == x && (k == .local || k == .cell))) = true
  · have hyl : X.env.scope.names.lookup x = some .local := by
      simp only [Bool.and_eq_true] at hsw
      have : X.env.kindOf x = some .local := by simpa using hsw.1.1.2
      exact this
    have ok : BlkOk X.N X.env.scope sc (ownOf Γ.N tg) := by rw [g.N, g.sc]; exact blkOk_by hb
    refine PS.imp (ps_setLc (i := i) (g := gOf U ⟨Γ.N, L2.relS sc Γ.sc, sc⟩ tg ((ownOf Γ.N tg).map (·.2))) (tt := tOfT U W0 (fun σ => ifsE (evE G n ⟨Γ.N, L2.relS sc Γ.sc, sc⟩ σ) ifs)) (te := tOf U W0 (fun σ => evE G n ⟨Γ.N, L2.relS sc Γ.sc, sc⟩ σ elt) fun _ => false)
      g.calm (by rw [g.N]; exact g.nd) (by rw [g.N]; exact idxOf_get hi) hyl ?_ pi.1 ok
      (fun s H C cl fp => pg_I (good_blk g.toGood) tg) (fun s H C cl fp => pts_I (f := fun σ => evE G n ⟨Γ.N, L2.relS sc Γ.sc, sc⟩ σ) (fun e => (h _ _ W0 (good_blk g.toGood) e).2) ifs) (fun s H C cl fp => hE' (good_blk g.toGood) elt) hsf) fun D σ H q => ?_
    · show (pure _ : Sem Bool) = pure true
      exact congrArg pure hsw
    · refine comp_imp g.toGood ?_
      refine tOf.to (fun σ => ?_) (tOf.weak (fr' := isL) (fun d z => ?_) (asg_imp hi hok q))
      · show (if _ then _ else _) = _
        rw [if_pos hb]
      · exact z
  · refine ps_asg1 g ((snd_E go gf (n + 1) Γ X W g.toGood _).1 40) ?_
    show (pure _ : Sem Bool) = pure false
    exact congrArg pure (Bool.eq_false_iff.mpr hsw)
/-- x = [.. for .. for ..] -/
theorem ps_asgC2 (g : GoodS U k Γ X W) (go : GlOk U k G) (gf : FnsOk U k G) {x : Str} {p pos spos : Pos} {elt tg it tg1 it1 : Expr} {ifs ifs1 : List Expr} {sc : Scope} {n : Nat} :
    PS X (.Assign [.Name x p] (.ListComp elt [⟨tg, it, ifs, 0⟩, ⟨tg1, it1, ifs1, 0⟩] sc spos) pos) (tOfS U W (fun σ => stAsg G (evE G (n + 1)) Γ σ x (.ListComp elt [⟨tg, it, ifs, 0⟩, ⟨tg1, it1, ifs1, 0⟩] sc spos))) := by
  have h := snd_E go gf n
  have hE' : ∀ {Γ X W}, Good U k Γ X W → ∀ e, PE X e (tOf U W (fun σ => evE G n Γ σ e) fun _ => false) := fun g e => PE.weak ((h _ _ _ g e).1 0) (fun d z => by cases z)
  have hE := fun e => hE' g.toGood e
  have hP : ∀ e, PE X e (tOfP U W (fun σ => evP G Γ σ (evE G n Γ σ) e)) := fun e => pe_evP g.toGood go (hE e)
  by_cases hok : setOk Γ x = true
  case neg => exact asg_bad hok
  by_cases hb : L2.blkC Γ.N Γ.sc sc (own2 Γ.N tg tg1) = true ∧ isSet it1 = false
  case neg => exact asg_fail fun σ => by show (if _ then _ else _) = _; rw [if_neg hb]
  obtain ⟨h1, h2, i, hi⟩ := setOk_ok hok
  obtain ⟨l1, l2⟩ := loc_ok g.toGood h2
  have pi := pi_iterE (tg := tg) (it := it) g.toGood go (srcE U) (f := fun σ => evP G Γ σ (evE G n Γ σ)) hP
  rcases pi.2 with hsf | hsf
  case inr =>
    exact asg_fail fun σ => by
      show (if _ then _ else _) = _
      rw [if_pos hb, hsf]
      rfl
  by_cases hsw : (X.env.blockKind == .function && X.env.kindOf x == some .local && p.line == spos.line && !(sc.names.any fun (n, k) => n == x && (k == .local || k == .cell))) = true
  · have hyl : X.env.scope.names.lookup x = some .local := by
      simp only [Bool.and_eq_true] at hsw
      have : X.env.kindOf x = some .local := by simpa using hsw.1.1.2
      exact this
    have ok : BlkOk X.N X.env.scope sc (own2 Γ.N tg tg1) := by rw [g.N, g.sc]; exact blkOk_by hb.1
    have hq : ∀ (Y : Cx), Good U k ⟨Γ.N, L2.relS sc Γ.sc, sc⟩ Y W0 → ∀ e, PE Y e (tOfQ U W0 (Rp U) (fun σ => evE G n ⟨Γ.N, L2.relS sc Γ.sc, sc⟩ σ e)) := fun Y gY e => PE.imp (hE' gY e) fun σ H Q h => by
      obtain ⟨H0, ow0, ow, σd, s, S, w⟩ := h
      exact ⟨H0, ow0, ow, σd, s, S, w.mono (fun d s' q v H' e c r _ => q v H' e c r) fun _ _ h => h⟩
    refine PS.imp (ps_setLc2 (i := i) (g := gOf U ⟨Γ.N, L2.relS sc Γ.sc, sc⟩ tg ((ownOf Γ.N tg).map (·.2))) (tt := tOfT U W0 (fun σ => ifsE (evE G n ⟨Γ.N, L2.relS sc Γ.sc, sc⟩ σ) ifs)) (wi1 := tOfI U W0 (fun σ => iterE G ⟨Γ.N, L2.relS sc Γ.sc, sc⟩ (evE G n ⟨Γ.N, L2.relS sc Γ.sc, sc⟩ σ) tg1 it1) (RlK U)) (g1 := gOf U ⟨Γ.N, L2.relS sc Γ.sc, sc⟩ tg1 ((ownOf Γ.N tg1).map (·.2))) (tt1 := tOfT U W0 (fun σ => ifsE (evE G n ⟨Γ.N, L2.relS sc Γ.sc, sc⟩ σ) ifs1)) (te := tOf U W0 (fun σ => evE G n ⟨Γ.N, L2.relS sc Γ.sc, sc⟩ σ elt) fun _ => false)
      g.calm (by rw [g.N]; exact g.nd) (by rw [g.N]; exact idxOf_get hi) hyl ?_ pi.1 ok hv2
      (fun s H C cl fp => pg_I (good_blk g.toGood) tg) (fun s H C cl fp => pts_I (f := fun σ => evE G n ⟨Γ.N, L2.relS sc Γ.sc, sc⟩ σ) (fun e => (h _ _ W0 (good_blk g.toGood) e).2) ifs)
      (fun s H C cl fp => (pi_iterE (good_blk g.toGood) go (srcK U) (f := fun σ => evE G n ⟨Γ.N, L2.relS sc Γ.sc, sc⟩ σ) (hq _ (good_blk g.toGood))).1)
      (fun s H C cl fp => pg_I (good_blk g.toGood) tg1) (fun s H C cl fp => pts_I (f := fun σ => evE G n ⟨Γ.N, L2.relS sc Γ.sc, sc⟩ σ) (fun e => (h _ _ W0 (good_blk g.toGood) e).2) ifs1) (fun s H C cl fp => hE' (good_blk g.toGood) elt) hsf (fold2 hb.2)) fun D σ H q => ?_
    · show (pure _ : Sem Bool) = pure true
      exact congrArg pure hsw
    · refine comp2_imp g.toGood ?_
      refine tOf.to (fun σ => ?_) (tOf.weak (fr' := isL) (fun d z => ?_) (asg_imp hi hok q))
      · show (if _ then _ else _) = _
        rw [if_pos hb]
      · exact z
  · refine ps_asg1 g ((snd_E go gf (n + 1) Γ X W g.toGood _).1 40) ?_
    show (pure _ : Sem Bool) = pure false
    exact congrArg pure (Bool.eq_false_iff.mpr hsw)
theorem ps_asgA (g : GoodS U k Γ X W) (go : GlOk U k G) (gf : FnsOk U k G) {x : Str} {e : Expr} {p pos : Pos} {n : Nat} : PS X (.Assign [.Name x p] e pos) (tOfS U W (fun σ => stAsg G (evE G n) Γ σ x e)) := by
  cases n with
  | zero => exact asg_fail fun σ => rfl
  | succ n =>
    have he := (snd_E go gf (n + 1) Γ X W g.toGood e).1 40
    cases e with
    | ListComp elt gens sc spos =>
      match gens with
      | [⟨tg, it, ifs, .ofNat 0⟩] => exact ps_asgC g go gf
      | [] => exact asg_fail fun σ => rfl
      | [⟨tg, it, ifs, .negSucc _⟩] => exact asg_fail fun σ => rfl
      | [⟨tg, it, ifs, .ofNat (_ + 1)⟩] => exact asg_fail fun σ => rfl
      | [⟨tg, it, ifs, .ofNat 0⟩, ⟨tg1, it1, ifs1, .ofNat 0⟩] => exact ps_asgC2 g go gf
      | [⟨_, _, _, .ofNat 0⟩, ⟨_, _, _, .negSucc _⟩] => exact asg_fail fun _ => rfl
      | [⟨_, _, _, .ofNat 0⟩, ⟨_, _, _, .ofNat (_ + 1)⟩] => exact asg_fail fun _ => rfl
      | [⟨_, _, _, .negSucc _⟩, _] => exact asg_fail fun _ => rfl
      | [⟨_, _, _, .ofNat (_ + 1)⟩, _] => exact asg_fail fun _ => rfl
      | g1 :: g2 :: _ :: _ => exact asg_fail fun _ => by rcases g1 with ⟨_, _, _, (_ | _) | _⟩ <;> rcases g2 with ⟨_, _, _, (_ | _) | _⟩ <;> rfl
    | SetComp _ _ _ _ => exact asg_fail fun σ => rfl
    | DictComp _ _ _ _ _ => exact asg_fail fun σ => rfl
    | _ => exact ps_asg1 g he rfl
end
end Py

set_option Elab.async false
set_option linter.all false
set_option maxRecDepth 100000
set_option maxHeartbeats 1000000
namespace Py
open PySem PySem.Spec PyProof.Rows L2
section
variable {U : Wd} {k : Nat} {Γ : Cxt} {X : Cx} {W : WX} {G : Gs} {ow ow0 : Ow} {H H0 H1 : Hp} {s s1 : DS} {σ : L2.St} {σd : St} {D : Ends} {ev : Cxt → St → Expr → M Py.D}
theorem PS.failF {e : Stmt} {m : St → M Flow} (h : ∀ σ, m σ = fail) : PS X e (tOfS U W m) := PS.fails h
/-- target = e, names or a tuple of them -/
theorem ps_tup1 (g : GoodS U k Γ X W) {tg e : Expr} {pos : Pos} {fr : Py.D → Bool} (he : PE X e (tOf U W (fun σ => ev Γ σ e) fr)) (hs : swapsWithSole [tg] e pos.line X.env = pure false) (hw : swappedStores [tg] e X.env = pure none)
    (h1 : (assignEach [tg] X.env).map (·.2) = [assign tg X.env]) :
    PS X (.Assign [tg] e pos) (tOfS U W (fun σ => stTup G ev Γ σ tg e)) := by
  refine PS.imp (ps_asg he (pg_I g.toGood tg) hs hw h1) fun D σ H h => ?_
  obtain ⟨H0, ow0, Hk, owk, ow, σd, s, S, kk, w⟩ := h
  have w : Wp (stTup G ev Γ σd tg e) s _ _ := w
  unfold stTup at w
  have w := w.of_stE
  obtain ⟨ow', S', k'⟩ := S.frz (esc G Γ.sc 40 e) (Γ := Γ)
  refine ⟨H0, ow0, ow', _, s, S', w.mono (fun d s' q v H' e' c r rf => ?_) (fun x s' q => rzX S' q)⟩
  obtain ⟨σ', hb, q⟩ := nx1_wp q
  exact ⟨H0, ow0, ow', _, s', d, σ', S'.ext e' c, r, bindT_to hb, fun σ2 S2 _ => q _ _ _ S2 (kk.trans (k'.trans e'.keep))⟩
/-- the name of a list that it owns -/
theorem pv_own (g : Good U k Γ X W) {l : Str} {i : Nat} {p : Pos} (hok : okName l = true) (hs : slot Γ l = some i) : PE X (.Name l p) (tVar i) := by
  obtain ⟨hd, hcd, _⟩ := okName_d hok
  obtain ⟨hk, hN⟩ := slot_get hs
  exact pe_var (by rw [g.N]; exact hN) (by rw [g.sc]; exact kindL_vis hk) hd hcd
theorem ownL_none {l : Str} (h : ¬ (okName l = true ∧ (slot Γ l).isSome = true)) : ownL Γ σd l = none := by
  cases e : ownL Γ σd l with
  | none => rfl
  | some p =>
    obtain ⟨a, b, _⟩ := ownL_ok (i := p.1) (ds := p.2) e
    exact absurd ⟨a, by rw [b]; rfl⟩ h
def rSetA : TSet := fun o i v H Q => rSetL o i v H Q ∨ ∃ a H', o = .ref a ∧ DPut H a i v H' ∧ Q H'
theorem set_any (hu : X.A.units + 1 < cLine) : PSet X rSetA := by
  intro pins s σ H o i v ov iv u Q I ro ri rv h
  rcases h with h | ⟨a, H', eo, dp, q⟩
  · exact set_list pins s σ H o i v ov iv u Q I ro ri rv h
  · subst eo
    obtain rfl : ov = Value.ref a := ro
    exact d_setItem hu I dp ri rv fun s' I' => ⟨H', I', q⟩
/-- l[i] = e -/
theorem ps_sub1 (g : GoodS U k Γ X W) {l : Str} {i e : Expr} {p q pos : Pos} {fr fr' : Py.D → Bool} (he : PE X e (tOf U W (fun σ => ev Γ σ e) fr)) (hi : PE X i (tOf U W (fun σ => ev Γ σ i) fr'))
    (hs : swapsWithSole [.Subscript (.Name l p) i q] e pos.line X.env = pure false) (hw : swappedStores [.Subscript (.Name l p) i q] e X.env = pure none)
    (h1 : (assignEach [.Subscript (.Name l p) i q] X.env).map (·.2) = [assign (.Subscript (.Name l p) i q) X.env])
    (ha : ∀ v, assign (.Subscript (.Name l p) i q) X.env v = (do
      let ov ← holding [v] (eval (.Name l p) X.env)
      let iv ← holding [v, ov] (eval i X.env)
      standAt q
      holding [v, ov, iv] (setItem ov iv v)
      release [v, ov, iv] [])) :
    PS X (.Assign [.Subscript (.Name l p) i q] e pos) (tOfS U W (fun σ => stSub G ev Γ σ l i e)) := by
  by_cases hh : (okName l = true ∧ (slot Γ l).isSome = true) ∧ noSlice i = true
  case neg => exact PS.fails fun σ => by unfold stSub; dsimp only; rw [if_neg hh]
  have ⟨⟨hok, hsm⟩, _⟩ := hh
  obtain ⟨n, hsl⟩ := Option.isSome_iff_exists.mp hsm
  refine PS.imp (ps_asg he (pg_sub (pv_own g.toGood hok hsl) hi (set_any (by have := g.toGood.hu; omega)) ha) hs hw h1) fun D σ H h => ?_
  obtain ⟨H0, ow0, Hk, owk, ow, σd, s, S, kk, w⟩ := h
  have w : Wp (stSub G ev Γ σd l i e) s _ _ := w
  unfold stSub at w
  dsimp only at w
  rw [if_pos hh] at w
  have w := w.of_stE
  obtain ⟨ow', S', k'⟩ := S.frz (esc G Γ.sc 40 e) (Γ := Γ)
  refine ⟨H0, ow0, ow', _, s, S', w.mono (fun d s' q v H' e' c r rf => ?_) (fun x s' q => rzX S' q)⟩
  have S1 := S'.ext e' c
  cases hl : ownL Γ (freeze Γ σd (esc G Γ.sc 40 e)) l with
  | none =>
    rw [show fz G Γ σd e = freeze Γ σd (esc G Γ.sc 40 e) from rfl, hl] at q
    dsimp only at q
    cases hd : ownD Γ (freeze Γ σd (esc G Γ.sc 40 e)) l with
    | none =>
      rw [hd] at q
      exact q.of_fail.elim
    | some pr =>
      obtain ⟨j, kvs⟩ := pr
      rw [hd] at q
      obtain ⟨_, hj, hd⟩ := ownD_ok hd
      rw [hsl] at hj; cases hj
      obtain ⟨a, xs, hv, hla, hoa, hca, rl⟩ := S1.ownedD hd
      have q := Wp.of_stE q
      refine ⟨_, hv, H0, ow0, ow', _, s', S1, q.mono (fun dj s2 q2 vj H2 e2 c2 rj rfj => ?_) (fun x s' q => rzX S1 q)⟩
      have S2 := S1.ext e2 c2
      split at q2
      · rename_i kq hkk
        obtain ⟨hlt, q2⟩ := q2.of_guard
        have hla2 := e2 a _ hca hla
        have rl2 := rl.ext e2
        obtain ⟨S3, k3⟩ := S2.mutU hd hv hoa hca (.inr ⟨_, _, rfl, rfl, rl2.put hkk (r.ext e2)⟩)
        refine .inr ⟨a, _, rfl, ?_, q2.of_pure _ _ _ S3 (kk.trans (k'.trans (e'.keep.trans (e2.keep.trans k3))))⟩
        rw [keyV rj hkk]
        exact DPut.k hla2 (by rw [← rl.length, sizeLine_eq]; omega)
      · exact q2.of_fail.elim
  | some pr =>
    obtain ⟨j, ds⟩ := pr
    rw [show fz G Γ σd e = freeze Γ σd (esc G Γ.sc 40 e) from rfl, hl] at q
    obtain ⟨_, hj, hd⟩ := ownL_ok hl
    rw [hsl] at hj; cases hj
    obtain ⟨a, xs, hv, hla, hoa, hca, rl⟩ := S1.owned hd
    have q := Wp.of_stE q
    refine ⟨_, hv, H0, ow0, ow', _, s', S1, q.mono (fun dj s2 q2 vj H2 e2 c2 rj rfj => ?_) (fun x s' q => rzX S1 q)⟩
    have S2 := S1.ext e2 c2
    split at q2
    · split at q2
      · rename_i m hm
        unfold Rp at rj
        have hla2 := e2 a _ hca hla
        have rl2 := rl.ext e2
        obtain ⟨S3, k3⟩ := S2.mut hd hv hla2 hoa hca (rl2.set m (r.ext e2))
        exact .inl ⟨a, xs, _, m, rfl, rj, hla2, by rw [← rl.length]; exact hm, q2.of_pure _ _ _ S3 (kk.trans (k'.trans (e'.keep.trans (e2.keep.trans k3))))⟩
      · exact q2.of_fail.elim
    · exact q2.of_fail.elim
end
end Py

set_option Elab.async false
set_option linter.all false
set_option maxRecDepth 100000
set_option maxHeartbeats 1000000
namespace Py
open PySem PySem.Spec PyProof.Rows L2
section
variable {U : Wd} {k : Nat} {Γ : Cxt} {X : Cx} {W : WX} {G : Gs} {ow ow0 : Ow} {H H0 H1 : Hp} {s s1 : DS} {σ : L2.St} {σd : St} {D : Ends} {ev : Cxt → St → Expr → M Py.D}
theorem getLast_ix {α : Type} {xs : List α} {d : α} (h : xs.getLast? = some d) : xs[xs.length - 1]? = some d := by
  rw [← List.getLast?_eq_getElem?]; exact h
/-- l.append(e) -/
theorem ps_app1 (g : GoodS U k Γ X W) {l : Str} {e : Expr} {p q r pos : Pos} {fr : Py.D → Bool} (he : PE X e (tOf U W (fun σ => ev Γ σ e) fr)) :
    PS X (.Expr (.Call (.Attribute (.Name l p) "append" q) [e] [] r) pos) (tOfS U W (fun σ => stApp G ev Γ σ l q r e)) := by
  by_cases hq : (q.endLine == r.line) = true ∧ notStar e = true
  case neg => exact PS.fails fun σ => by unfold stApp; dsimp only; rw [if_neg hq]
  by_cases hh : okName l = true ∧ (slot Γ l).isSome = true
  case neg => exact PS.fails fun σ => by unfold stApp; dsimp only; rw [if_pos hq, ownL_none hh]
  have ⟨hok, hsm⟩ := hh
  obtain ⟨n, hsl⟩ := Option.isSome_iff_exists.mp hsm
  have hst := starEach_ns (env := X.env) (es := []) hq.2
  refine PS.imp (ps_expr (pe_bm PySem.F.plainAttrs_list PySem.F.slot_list_append PySem.F.type_list_append mt_append (pv_own g.toGood hok hsl) (pa_cons he pa_nil hst) rfl (by rw [hst]; rfl) hq.1 hst rfl) rfl) fun D σ H h => ?_
  obtain ⟨H0, ow0, Hk, owk, ow, σd, s, S, kk, w⟩ := h
  have w : Wp (stApp G ev Γ σd l q r e) s _ _ := w
  unfold stApp at w
  dsimp only at w
  rw [if_pos hq] at w
  obtain ⟨ow', S', k'⟩ := S.frz (esc G Γ.sc 40 e) (Γ := Γ)
  rw [show fz G Γ σd e = freeze Γ σd (esc G Γ.sc 40 e) from rfl] at w
  cases hl : ownL Γ (freeze Γ σd (esc G Γ.sc 40 e)) l with
  | none => rw [hl] at w; exact w.of_fail.elim
  | some pr =>
    obtain ⟨j, ds⟩ := pr
    rw [hl] at w
    obtain ⟨_, hj, hd⟩ := ownL_ok hl
    rw [hsl] at hj; cases hj
    obtain ⟨a, xs, hv, hla, hoa, hca, rl⟩ := S'.owned hd
    have w := Wp.of_stE w
    refine ⟨_, hv, .inl ⟨rfl, _, SqL.of_eq hla⟩, H0, ow0, ow', _, s, S', w.mono (fun d s2 q2 v H2 e2 c2 rv _ => ?_) (fun x s' q => rzX S' q)⟩
    obtain ⟨hlen, q2⟩ := q2.of_guard
    have S2 := S'.ext e2 c2
    have hla2 := e2 a _ hca hla
    obtain ⟨S3, k3⟩ := S2.mut hd hv hla2 hoa hca ((rl.ext e2).append (RpL.cons rv RpL.nil))
    exact ⟨a, xs, v, rfl, rfl, hla2, by rw [← rl.length]; exact hlen, q2.of_pure _ _ _ S3 (kk.trans (k'.trans (e2.keep.trans k3)))⟩
/-- l.extend(e) -/
theorem ps_ext1 (g : GoodS U k Γ X W) {l : Str} {e : Expr} {p q r pos : Pos} {fr : Py.D → Bool} (he : PE X e (tOf U W (fun σ => ev Γ σ e) fr)) :
    PS X (.Expr (.Call (.Attribute (.Name l p) "extend" q) [e] [] r) pos) (tOfS U W (fun σ => stExt G ev Γ σ l q r e)) := by
  by_cases hq : (q.endLine == r.line) = true ∧ notStar e = true
  case neg => exact PS.fails fun σ => by unfold stExt; dsimp only; rw [if_neg hq]
  by_cases hh : okName l = true ∧ (slot Γ l).isSome = true
  case neg => exact PS.fails fun σ => by unfold stExt; dsimp only; rw [if_pos hq, ownL_none hh]
  have ⟨hok, hsm⟩ := hh
  obtain ⟨n, hsl⟩ := Option.isSome_iff_exists.mp hsm
  have hst := starEach_ns (env := X.env) (es := []) hq.2
  refine PS.imp (ps_expr (pe_bm PySem.F.plainAttrs_list PySem.F.slot_list_extend PySem.F.type_list_extend mt_extend (pv_own g.toGood hok hsl) (pa_cons he pa_nil hst) rfl (by rw [hst]; rfl) hq.1 hst rfl) rfl) fun D σ H h => ?_
  obtain ⟨H0, ow0, Hk, owk, ow, σd, s, S, kk, w⟩ := h
  have w : Wp (stExt G ev Γ σd l q r e) s _ _ := w
  unfold stExt at w
  dsimp only at w
  rw [if_pos hq] at w
  obtain ⟨ow', S', k'⟩ := S.frz (esc G Γ.sc 40 e) (Γ := Γ)
  rw [show fz G Γ σd e = freeze Γ σd (esc G Γ.sc 40 e) from rfl] at w
  cases hl : ownL Γ (freeze Γ σd (esc G Γ.sc 40 e)) l with
  | none => rw [hl] at w; exact w.of_fail.elim
  | some pr =>
    obtain ⟨j, ds⟩ := pr
    rw [hl] at w
    obtain ⟨_, hj, hd⟩ := ownL_ok hl
    rw [hsl] at hj; cases hj
    obtain ⟨a, xs, hv, hla, hoa, hca, rl⟩ := S'.owned hd
    have w := Wp.of_stE w
    refine ⟨_, hv, .inl ⟨rfl, _, SqL.of_eq hla⟩, H0, ow0, ow', _, s, S', w.mono (fun d s2 q2 v H2 e2 c2 rv _ => ?_) (fun x s' q => rzX S' q)⟩
    cases d with
    | list es =>
      obtain ⟨hlen, q2⟩ := q2.of_guard
      unfold Rp at rv
      obtain ⟨b, zs, hb, nb, rz⟩ := rv
      subst hb
      have S2 := S'.ext e2 c2
      have hla2 := e2 a _ hca hla
      obtain ⟨S3, k3⟩ := S2.mut hd hv hla2 hoa hca ((rl.ext e2).append rz)
      exact ⟨a, b, xs, zs, rfl, rfl, hla2, nb.1, by rw [← rl.length, ← rz.length, ← sline_eq]; exact hlen, q2.of_pure _ _ _ S3 (kk.trans (k'.trans (e2.keep.trans k3)))⟩
    | _ => exact q2.of_fail.elim
/-- l.pop() -/
theorem ps_pop0 (g : GoodS U k Γ X W) {l : Str} {p q r pos : Pos} :
    PS X (.Expr (.Call (.Attribute (.Name l p) "pop" q) [] [] r) pos) (tOfS U W (fun σ => stPop0 Γ σ l q r)) := by
  by_cases hq : (q.endLine == r.line) = true
  case neg => exact PS.fails fun σ => by unfold stPop0; rw [if_neg hq]
  by_cases hh : okName l = true ∧ (slot Γ l).isSome = true
  case neg => exact PS.fails fun σ => by unfold stPop0; rw [if_pos hq, ownL_none hh]
  have ⟨hok, hsm⟩ := hh
  obtain ⟨n, hsl⟩ := Option.isSome_iff_exists.mp hsm
  refine PS.imp (ps_expr (pe_bm0 PySem.F.plainAttrs_list PySem.F.slot_list_pop PySem.F.type_list_pop mt_pop (pv_own g.toGood hok hsl) rfl hq) rfl) fun D σ H h => ?_
  obtain ⟨H0, ow0, Hk, owk, ow, σd, s, S, kk, w⟩ := h
  have w : Wp (stPop0 Γ σd l q r) s _ _ := w
  unfold stPop0 at w
  rw [if_pos hq] at w
  cases hl : ownL Γ σd l with
  | none => rw [hl] at w; exact w.of_fail.elim
  | some pr =>
    obtain ⟨j, ds⟩ := pr
    rw [hl] at w
    obtain ⟨_, hj, hd⟩ := ownL_ok hl
    rw [hsl] at hj; cases hj
    obtain ⟨a, xs, hv, hla, hoa, hca, rl⟩ := S.owned hd
    rcases w.of_ite with ⟨_, w⟩ | ⟨hz, w⟩
    · exact w.of_fail.elim
    have hlen := rl.length
    obtain ⟨y, hy⟩ : ∃ y, xs[xs.length - 1]? = some y := ⟨_, List.getElem?_eq_getElem (by omega)⟩
    obtain ⟨S3, k3⟩ := S.mut hd hv hla hoa hca rl.dropLast
    exact ⟨_, hv, .inl ⟨rfl, _, SqL.of_eq hla⟩, a, xs, y, rfl, rfl, hla, hy, w.of_pure _ _ _ S3 (kk.trans k3)⟩
/-- x = l.pop(..) -/
theorem ps_pop1 (g : GoodS U k Γ X W) {x l : Str} {p p' q r pos : Pos} {args : List Expr} (he : ∀ e, PE X e (tOf U W (fun σ => ev Γ σ e) fun _ => false)) :
    PS X (.Assign [.Name x p'] (.Call (.Attribute (.Name l p) "pop" q) args [] r) pos) (tOfS U W (fun σ => stPop ev Γ σ x l q r args)) := by
  by_cases hq : setOk Γ x = true ∧ (q.endLine == r.line) = true ∧ noStars args = true
  case neg => exact PS.fails fun σ => by unfold stPop; rw [if_neg hq]
  by_cases hh : okName l = true ∧ (slot Γ l).isSome = true
  case neg => exact PS.fails fun σ => by unfold stPop; rw [if_pos hq, ownL_none hh]
  have ⟨hok, hsm⟩ := hh
  obtain ⟨n, hsl⟩ := Option.isSome_iff_exists.mp hsm
  obtain ⟨h1, h2, i, hi⟩ := setOk_ok hq.1
  obtain ⟨l1, l2⟩ := loc_ok g.toGood h2
  cases args with
  | nil =>
    refine PS.imp (ps_set (i := i) (by rw [g.N]; exact g.nd) (by rw [g.N]; exact idxOf_get hi) l1 (pe_bm0 PySem.F.plainAttrs_list PySem.F.slot_list_pop PySem.F.type_list_pop mt_pop (pv_own g.toGood hok hsl) rfl hq.2.1) rfl l2) fun D σ H h => ?_
    obtain ⟨H0, ow0, Hk, owk, ow, σd, s, S, kk, w⟩ := h
    have w : Wp (stPop ev Γ σd x l q r []) s _ _ := w
    unfold stPop at w
    rw [if_pos hq] at w
    cases hl : ownL Γ σd l with
    | none => rw [hl] at w; exact w.of_fail.elim
    | some pr =>
      obtain ⟨j, ds⟩ := pr
      rw [hl] at w
      obtain ⟨_, hj, hd⟩ := ownL_ok hl
      rw [hsl] at hj; cases hj
      obtain ⟨a, xs, hv, hla, hoa, hca, rl⟩ := S.owned hd
      dsimp only at w
      cases hg : ds.getLast? with
      | none => rw [hg] at w; exact w.of_fail.elim
      | some d =>
        rw [hg] at w
        obtain ⟨σ', hs, w⟩ := nx1_wp w
        have hs := setN_i hi hs
        subst hs
        obtain ⟨y, hy, ry⟩ := rl.get (getLast_ix hg)
        rw [rl.length] at hy
        obtain ⟨S3, k3⟩ := S.mut hd hv hla hoa hca rl.dropLast
        exact ⟨_, hv, .inl ⟨rfl, _, SqL.of_eq hla⟩, a, xs, y, rfl, rfl, hla, hy, w _ _ _ (S3.set (Rp.mono k3 _ _ ry)) (kk.trans k3)⟩
  | cons e es =>
  cases es with
  | cons e2 es =>
    exact PS.fails fun σ => by
      unfold stPop
      rw [if_pos hq]
      cases ownL Γ σ l <;> rfl
  | nil =>
    have hns : notStar e = true := by have := hq.2.2; unfold noStars at this; simpa using this
    have hst := starEach_ns (env := X.env) (es := []) hns
    refine PS.imp (ps_set (i := i) (by rw [g.N]; exact g.nd) (by rw [g.N]; exact idxOf_get hi) l1 (pe_bm PySem.F.plainAttrs_list PySem.F.slot_list_pop PySem.F.type_list_pop mt_popAt (pv_own g.toGood hok hsl) (pa_cons (he e) pa_nil hst) rfl (by rw [hst]; rfl) hq.2.1 hst rfl) rfl l2) fun D σ H h => ?_
    obtain ⟨H0, ow0, Hk, owk, ow, σd, s, S, kk, w⟩ := h
    have w : Wp (stPop ev Γ σd x l q r [e]) s _ _ := w
    unfold stPop at w
    rw [if_pos hq] at w
    cases hl : ownL Γ σd l with
    | none => rw [hl] at w; exact w.of_fail.elim
    | some pr =>
      obtain ⟨j, ds⟩ := pr
      rw [hl] at w
      obtain ⟨_, hj, hd⟩ := ownL_ok hl
      rw [hsl] at hj; cases hj
      obtain ⟨a, xs, hv, hla, hoa, hca, rl⟩ := S.owned hd
      have w := Wp.of_stE w
      refine ⟨_, hv, .inl ⟨rfl, _, SqL.of_eq hla⟩, H0, ow0, ow, _, s, S, w.mono (fun dj s2 w2 vj H2 e2 c2 rj _ => ?_) (fun x s' q => rzX S q)⟩
      have S2 := S.ext e2 c2
      cases dj with
      | int jj =>
        dsimp only at w2
        cases hx : L2.ixN ds.length jj with
        | none => rw [hx] at w2; exact w2.of_fail.elim
        | some m =>
          rw [hx] at w2
          dsimp only at w2
          cases hg : ds[m]? with
          | none => rw [hg] at w2; exact w2.of_fail.elim
          | some d =>
            rw [hg] at w2
            obtain ⟨h62, w2⟩ := w2.of_guard
            obtain ⟨b1, b2⟩ := in62_ok h62
            obtain ⟨σ', hs, w2⟩ := nx1_wp w2
            have hs := setN_i hi hs
            subst hs
            have hla2 := e2 a _ hca hla
            have rl2 := rl.ext e2
            obtain ⟨y, hy, ry⟩ := rl2.get hg
            obtain ⟨S3, k3⟩ := S2.mut hd hv hla2 hoa hca (rl2.eraseIdx m)
            rw [rl.length] at hx
            unfold Rp at rj
            subst rj
            exact ⟨a, xs, jj, m, y, rfl, rfl, hla2, by omega, by omega, (ixN_seq hx).1, hy, w2 _ _ _ (S3.set (Rp.mono k3 _ _ ry)) (kk.trans (e2.keep.trans k3))⟩
      | _ => exact w2.of_fail.elim
/-- x op= e -/
theorem ip_mulW : PIp X .Mult (rI CMulW fun i j => .int (i * j)) := opI fun _ _ _ _ _ _ _ hc q => imul_int q hc.ok
def tAugQ (op : Operator) : TIp := fun x y H Q => ∃ i j c, x = .int i ∧ y = .int j ∧ augI op i j = some c ∧ Q (.int c) H
theorem ip_aug (op : Operator) : PIp X op (tAugQ op) := by
  intro pins s σ H x y v u Q I rx ry h
  obtain ⟨i, j, c, rfl, rfl, hc, q⟩ := h
  unfold augI at hc
  split at hc
  · cases hc; exact ip_add pins s σ H _ _ v u Q I rx ry ⟨i, j, rfl, rfl, q⟩
  · cases hc; exact ip_sub pins s σ H _ _ v u Q I rx ry ⟨i, j, rfl, rfl, q⟩
  · split at hc
    · rename_i hb
      cases hc; exact ip_mulW pins s σ H _ _ v u Q I rx ry ⟨i, j, rfl, rfl, hb, q⟩
    · cases hc
  · cases hc
theorem ps_aug1 (g : GoodS U k Γ X W) {x : Str} {e : Expr} {op : Operator} {p pos : Pos} {fr : Py.D → Bool} (he : PE X e (tOf U W (fun σ => ev Γ σ e) fr)) :
    PS X (.AugAssign (.Name x p) op e pos) (tOfS U W (fun σ => stAug ev Γ σ x op e)) := by
  by_cases hq : setOk Γ x = true
  case neg => exact PS.fails fun σ => by unfold stAug; rw [if_neg hq]
  obtain ⟨h1, h2, i, hi⟩ := setOk_ok hq
  obtain ⟨l1, l2⟩ := loc_ok g.toGood h2
  refine PS.imp (ps_aug (i := i) (by rw [g.N]; exact g.nd) (by rw [g.N]; exact idxOf_get hi) l1 he (ip_aug op) l2) fun D σ H h => ?_
  obtain ⟨H0, ow0, Hk, owk, ow, σd, s, S, kk, w⟩ := h
  have w : Wp (stAug ev Γ σd x op e) s _ _ := w
  unfold stAug at w
  rw [if_pos hq, hi] at w
  dsimp only at w
  split at w
  · rename_i a o hs
    obtain ⟨v, hv, r1, r2⟩ := S.slots i _ o hs
    have hvi : v = .int a := by
      cases o with
      | false => have := r1 rfl; unfold Rp at this; exact this
      | true =>
        cases (r2 rfl).soft
    subst hvi
    have w := Wp.of_stE w
    refine ⟨_, hv, H0, ow0, ow, _, s, S, w.mono (fun d s2 w2 v2 H2 e2 c2 r2 _ => ?_) (fun x s' q => rzX S q)⟩
    cases d with
    | int b =>
      dsimp only at w2
      cases hc : augI op a b with
      | none => rw [hc] at w2; exact w2.of_fail.elim
      | some c =>
        rw [hc] at w2
        obtain ⟨σ', hs', w2⟩ := nx1_wp w2
        have hs' := setN_i hi hs'
        subst hs'
        unfold Rp at r2
        exact ⟨a, b, c, rfl, r2, hc, w2 _ _ _ ((S.ext e2 c2).set Rp.int) (kk.trans e2.keep)⟩
    | _ => exact w2.of_fail.elim
  · exact w.of_fail.elim
/-- what stands at a place of a list, for an operator with a store -/
theorem pget_lst : PGet X (rIxL X.K) := by
  intro pins st sl Hh ob ik obv ikv QQ II r1 r2 hh
  obtain ⟨pp, ys, jj, zz, e1, e2, hsq, hat, fin⟩ := hh
  subst e1 e2
  cases r1
  obtain ⟨tk, rfl⟩ := r2
  obtain ⟨items, rv, isl, hsz⟩ := II.list hsq
  obtain ⟨m, s1, s2, s3, s4, s5⟩ := L2.atI_get hat
  obtain ⟨u, hu, ru⟩ := rv.get s2
  have hlen := rv.length
  have h63 := line63
  have good : EP X pins sl QQ u st := ⟨zz, Hh, II, ru, fin⟩
  by_cases hneg : jj < 0
  · have hm : (jj + (items.toArray.size : Int)).toNat = m := by
      rw [List.size_toArray, ← hlen]
      have z := s1
      rw [seqIndex_neg hneg s4] at z
      exact Option.some.inj z
    refine wpAny_getItem_list_neg isl.isList hneg ?_ ?_ ?_ good
    · rw [List.size_toArray]; omega
    · omega
    · rw [hm]; simpa using hu
  · have hm : jj.toNat = m := by
      have z := s1
      rw [seqIndex_of (by omega) s5] at z
      exact Option.some.inj z
    refine wpAny_getItem_list isl.isList (by omega) (by omega) ?_ good
    rw [hm]; simpa using hu
theorem ps_augS2 (g : GoodS U k Γ X W) {l : Str} {i e : Expr} {op : Operator} {p q pos : Pos} {fr fr' : Py.D → Bool} (he : PE X e (tOf U W (fun σ => ev Γ σ e) fr)) (hi : PE X i (tOf U W (fun σ => ev Γ σ i) fr'))
    (ha : ∀ ov iv new, augStore i ov iv new = (do holding [new, ov, iv] (setItem ov iv new); release [new, ov, iv] []; pure .next)) :
    PS X (.AugAssign (.Subscript (.Name l p) i q) op e pos) (tOfS U W (fun σ => stAugS ev Γ σ l i op e)) := by
  by_cases hh : (okName l = true ∧ (slot Γ l).isSome = true) ∧ noSlice i = true
  case neg => exact PS.fails fun σ => by unfold stAugS; rw [if_neg hh]
  have ⟨⟨hok, hsm⟩, _⟩ := hh
  obtain ⟨n, hsl⟩ := Option.isSome_iff_exists.mp hsm
  refine PS.imp (ps_augS (pv_own g.toGood hok hsl) hi pget_lst he (ip_aug op) set_list ha) fun D σ H h => ?_
  obtain ⟨H0, ow0, Hk, owk, ow, σd, s, S, kk, w⟩ := h
  have w : Wp (stAugS ev Γ σd l i op e) s _ _ := w
  unfold stAugS at w
  rw [if_pos hh] at w
  cases hl : ownL Γ σd l with
  | none => rw [hl] at w; exact w.of_fail.elim
  | some pr =>
    obtain ⟨j, ds⟩ := pr
    rw [hl] at w
    obtain ⟨_, hj, hd⟩ := ownL_ok hl
    rw [hsl] at hj; cases hj
    obtain ⟨a, xs, hv, hla, hoa, hca, rl⟩ := S.owned hd
    have w := Wp.of_stE w
    refine ⟨_, hv, H0, ow0, ow, _, s, S, w.mono (fun dj s2 w2 vj H2 e2 c2 rj _ => ?_) (fun x s' q => rzX S q)⟩
    have S2 := S.ext e2 c2
    have hla2 := e2 a _ hca hla
    have rl2 := rl.ext e2
    cases dj with
    | int jj =>
      dsimp only at w2
      unfold Rp at rj
      cases hix : L2.ixN ds.length jj with
      | none => rw [hix] at w2; exact w2.of_fail.elim
      | some m =>
        rw [hix] at w2
        dsimp only at w2
        split at w2
        · rename_i av hav
          obtain ⟨v0, hv0, rv0⟩ := rl2.get hav
          unfold Rp at rv0
          have hat : atI xs jj = some v0 := by
            unfold atI
            rw [← rl.length, hix]
            exact hv0
          have w2 := Wp.of_stE w2
          refine ⟨a, xs, jj, v0, rfl, rj, .inl (.inl hla2), hat, H0, ow0, ow, _, s2, S2, w2.mono (fun de s3 w3 ve H3 e3 c3 re _ => ?_) (fun x s' q => rzX S2 q)⟩
          have S3 := S2.ext e3 c3
          have hla3 := e3 a _ hca hla2
          have rl3 := rl2.ext e3
          cases de with
          | int b =>
            dsimp only at w3
            unfold Rp at re
            cases hc : augI op av b with
            | none => rw [hc] at w3; exact w3.of_fail.elim
            | some c =>
              rw [hc] at w3
              obtain ⟨S4, k4⟩ := S3.mut hd hv hla3 hoa hca (rl3.set m (Rp.int (b := c)))
              exact ⟨av, b, c, rv0, re, hc, a, xs, jj, m, rfl, rj, hla3, by rw [← rl.length]; exact hix, w3.of_pure _ _ _ S4 (kk.trans (e2.keep.trans (e3.keep.trans k4)))⟩
          | _ => exact w3.of_fail.elim
        · exact w2.of_fail.elim
    | _ => exact w2.of_fail.elim
end
end Py

set_option Elab.async false
set_option linter.all false
set_option maxRecDepth 100000
set_option maxHeartbeats 1000000
namespace Py
open PySem PySem.Spec PyProof.Rows L2
section
variable {U : Wd} {k : Nat} {Γ : Cxt} {X : Cx} {W : WX} {G : Gs} {ow ow0 : Ow} {H H0 H1 : Hp} {s s1 : DS} {σ : L2.St} {σd : St} {D : Ends} {ev : Cxt → St → Expr → M Py.D}
theorem isLocal_ok {sc : Scope} {x : Str} (h : isLocal sc x = true) : sc.names.lookup x = some .local := by
  unfold isLocal at h
  split at h
  · assumption
  · cases h
theorem noStar_any {vs : List Expr} (h : vs.all notStar = true) (f : Expr → Bool) (hf : ∀ e, notStar e = true → f e = false) : vs.any f = false := by
  induction vs with
  | nil => rfl
  | cons a as ih =>
    rw [List.all_cons, Bool.and_eq_true] at h
    rw [List.any_cons, ih h.2, hf a h.1]; rfl
theorem names_map {env : Env} {line : Nat} : ∀ {ts : List Expr} {xs : List Str}, namesOf ts = some xs → (∀ x ∈ xs, env.kindOf x = some .local) → (ts.all fun e => match e with
    | .Name _ q => q.line == line
    | _ => false) = true → ∀ f : Expr → Option Str, (∀ id pos, f (.Name id pos) = if env.kindOf id == some .local && pos.line == line then some id else none) → ts.filterMap f = xs
  | [], xs, h, _, _, f, _ => by cases h; rfl
  | e :: ts, xs, h, hk, hl, f, hf => by
    cases e with
    | Name x p =>
      unfold namesOf at h
      try dsimp only at h
      cases hn : namesOf ts with
      | none => rw [hn] at h; cases h
      | some ys =>
        rw [hn] at h
        cases h
        rw [List.all_cons, Bool.and_eq_true] at hl
        have h1 : (p.line == line) = true := hl.1
        have h2 := names_map hn (fun x hx => hk x (List.mem_cons_of_mem _ hx)) hl.2 f hf
        rw [List.filterMap_cons, hf, hk x List.mem_cons_self, h1]
        simp [h2]
    | _ => cases h
theorem sw_par {env : Env} {ts vs : List Expr} {xs : List Str} {pt pt2 : Pos} {kt k2 : Nat} (hk : env.scope.kind = .function) (hn : namesOf ts = some xs) (hx : ∀ x ∈ xs, env.scope.names.lookup x = some .local) (hl : oneLine ts = true)
    (h0 : (ts.length == 2 || ts.length == 3) = true) (h00 : (vs.length == ts.length) = true) (hd : (xs.eraseDups.length == xs.length) = true) (h1 : vs.all notStar = true) (h2 : vs.all (foldedForSure 8) = false) (h3 : vs.all (constantsAlone 8) = false) :
    swappedStores [.Tuple ts kt pt] (.Tuple vs k2 pt2) env = pure (some xs) := by
  have hb : env.blockKind = .function := by unfold Env.blockKind; rw [hk]; rfl
  have hlen : xs.length = ts.length := by
    have : ∀ {ts : List Expr} {xs : List Str}, namesOf ts = some xs → xs.length = ts.length := by
      intro ts
      induction ts with
      | nil => intro xs h; cases h; rfl
      | cons e ts ih =>
        intro xs h
        cases e with
        | Name x p =>
          unfold namesOf at h
          try dsimp only at h
          cases hn : namesOf ts with
          | none => rw [hn] at h; cases h
          | some ys =>
            rw [hn] at h
            cases h
            rw [List.length_cons, List.length_cons, ih hn]
        | _ => cases h
    exact this hn
  have hline : (ts.all fun e => match e with
    | .Name _ q => q.line == (ts.head?.map (·.pos.line)).getD 0
    | _ => false) = true := by
    unfold oneLine at hl
    split at hl
    · rename_i x p es
      rw [List.all_cons, Bool.and_eq_true]
      refine ⟨by show (p.line == p.line) = true; simp, hl⟩
    · cases hl
  have key := names_map hn (env := env) hx hline
  have b1 : (!(ts.length == 2 || ts.length == 3) || vs.length != ts.length || env.blockKind != ScopeKind.function) = false := by
    rw [h0, hb, bne, h00]; rfl
  have b2 : (xs.length != ts.length || xs.eraseDups.length != xs.length) = false := by
    rw [hlen, bne, bne, ← hlen, hd]; simp
  unfold swappedStores
  dsimp only
  rw [noStar_any h1 _ (by intro e h; cases e <;> first | rfl | cases h), key _ (fun _ _ => rfl), b1, b2, h2, h3]
  rfl
theorem names_short {env : Env} {line : Nat} {f : Expr → Option Str} (hf : ∀ id pos, f (.Name id pos) = if env.kindOf id == some .local && pos.line == line then some id else none) (hn : ∀ e, (∀ id pos, e ≠ .Name id pos) → f e = none) : ∀ ts : List Expr,
    (ts.all fun e => match e with
      | .Name x p => isLocal env.scope x && p.line == line
      | _ => false) = false → (ts.filterMap f).length < ts.length
  | [], h => by simp at h
  | e :: ts, h => by
    have hle : (ts.filterMap f).length ≤ ts.length := List.length_filterMap_le ..
    rw [List.all_cons, Bool.and_eq_false_iff] at h
    rw [List.filterMap_cons]
    rcases h with h | h
    · have : f e = none := by
        cases e with
        | Name x p =>
          rw [hf]
          have h : (isLocal env.scope x && p.line == line) = false := h
          have hk : (env.kindOf x == some .local) = isLocal env.scope x := by
            unfold isLocal Env.kindOf
            cases env.scope.names.lookup x with
            | none => rfl
            | some k => cases k <;> rfl
          rw [hk, h]
          rfl
        | _ => exact hn _ (by intro id pos z; cases z)
      rw [this]
      simp only [List.length_cons]
      omega
    · have ih := names_short hf hn ts h
      cases f e with
      | none => simp only [List.length_cons]; omega
      | some y => simp only [List.length_cons]; omega
theorem sw_off (g : GoodS U k Γ X W) {ts vs : List Expr} {pt pt2 : Pos} {kt k2 : Nat} (h : offPar Γ ts vs = true) : swappedStores [.Tuple ts kt pt] (.Tuple vs k2 pt2) X.env = pure none := by
  unfold offPar at h
  rw [Bool.and_eq_true, Bool.and_eq_true, Bool.and_eq_true] at h
  obtain ⟨⟨⟨h0, h00⟩, h1⟩, h2⟩ := h
  have h2 : (ts.all fun e => match e with
      | .Name x p => isLocal Γ.sc x && p.line == (ts.head?.map (·.pos.line)).getD 0
      | _ => false) = false := (Bool.not_eq_true' _).mp h2
  have hsk : X.env.scope.kind = .function := by rw [g.sc]; exact g.fk
  have hb : X.env.blockKind = .function := by unfold Env.blockKind; rw [hsk]; rfl
  have b1 : (!(ts.length == 2 || ts.length == 3) || vs.length != ts.length || X.env.blockKind != ScopeKind.function) = false := by
    rw [h0, hb, bne, h00]; rfl
  rw [← g.sc] at h2
  have hs := names_short (env := X.env) (line := (ts.head?.map (·.pos.line)).getD 0) (f := fun | .Name id pos => if X.env.kindOf id == some .local && pos.line == (ts.head?.map (·.pos.line)).getD 0 then some id else none | _ => none) (fun _ _ => rfl) (fun e he => by cases e <;> first | rfl | exact absurd rfl (he _ _)) ts h2
  unfold swappedStores
  dsimp only
  rw [noStar_any h1 _ (by intro e h; cases e <;> first | rfl | cases h), b1]
  have b2 : ((List.filterMap (fun | .Name id pos => if X.env.kindOf id == some .local && pos.line == (ts.head?.map (·.pos.line)).getD 0 then some id else none | _ => none) ts).length != ts.length) = true := by
    rw [bne_iff_ne]
    omega
  rw [if_neg (by simp), if_neg (by simp)]
  exact if_pos (by rw [Bool.or_eq_true]; exact .inl b2)
theorem parOk_ok {ts vs : List Expr} {xs : List Str} (h : parOk Γ ts vs xs = true) : (ts.length == 2 || ts.length == 3) = true ∧ (vs.length == ts.length) = true ∧ oneLine ts = true ∧ (∀ x ∈ xs, Γ.sc.names.lookup x = some .local) ∧ (xs.eraseDups.length == xs.length) = true ∧ vs.all notStar = true ∧
    vs.all (foldedForSure 8) = false ∧ vs.all (constantsAlone 8) = false := by
  unfold parOk at h
  rw [Bool.and_eq_true, Bool.and_eq_true, Bool.and_eq_true, Bool.and_eq_true, Bool.and_eq_true, Bool.and_eq_true, Bool.and_eq_true] at h
  obtain ⟨⟨⟨⟨⟨⟨⟨h1, h2⟩, h3⟩, h4⟩, h5⟩, h6⟩, h7⟩, h8⟩ := h
  refine ⟨h1, h2, h3, fun x hx => isLocal_ok (List.all_eq_true.mp h4 x hx), h5, h6, ?_, ?_⟩
  · simpa using h7
  · simpa using h8
theorem dup2 {x y : Str} (h : ([x, y].eraseDups.length == [x, y].length) = true) : x ≠ y := fun z => by
  subst z
  have : ([x, x].eraseDups) = [x] := by simp [List.eraseDups_cons]
  rw [this] at h
  simp at h
theorem dup3 {x y z : Str} (h : ([x, y, z].eraseDups.length == [x, y, z].length) = true) : x ≠ y ∧ x ≠ z ∧ y ≠ z := by
  have key : ∀ a b c : Str, ([a, b, c].eraseDups.length = 3) → a ≠ b ∧ a ≠ c ∧ b ≠ c := by
    intro a b c hh
    simp only [List.eraseDups_cons] at hh
    refine ⟨fun z => ?_, fun z => ?_, fun z => ?_⟩
    · subst z
      by_cases hb : (c == a) = true <;> simp [List.filter_cons, hb, List.eraseDups_cons] at hh
    · subst z
      by_cases hb : (b == a) = true <;> simp [List.filter_cons, hb, List.eraseDups_cons] at hh
    · subst z
      by_cases hb : (b == a) = true <;> simp [List.filter_cons, hb, List.eraseDups_cons] at hh
  exact key x y z (by simpa using h)
theorem idx_ne {N : List Str} {x y : Str} {i j : Nat} (hi : N.idxOf? x = some i) (hj : N.idxOf? y = some j) (h : x ≠ y) : i ≠ j := fun z => by
  subst z
  have a := idxOf_get hi
  rw [idxOf_get hj] at a
  cases a
  exact h rfl
/-- the part that both share -/
theorem par_imp {ts vs : List Expr} {xs : List Str} (hn : namesOf ts = some xs) (hp : parOk Γ ts vs xs = true ∧ xs.all (setOk Γ) = true) (h : tOfS U W (fun σ => stPar G ev Γ σ ts vs) D σ H) :
    ∃ H0 ow0 Hk owk ow σd s, SR U H0 ow0 ow σ H σd s ∧ Keep U owk ow Hk H ∧ Wp (evs (ev Γ σd) vs) s (fun ds s' => Wp (nx1 (setPar (vs.map isNil) σd (idxL Γ xs) ds)) s' (PostF U H0 ow0 Hk owk W D) fun _ _ => False) (PostX U W σ H) := by
  obtain ⟨H0, ow0, Hk, owk, ow, σd, s, S, kk, w⟩ := h
  have w : Wp (stPar G ev Γ σd ts vs) s _ _ := w
  unfold stPar at w
  rw [hn] at w
  dsimp only at w
  rw [if_pos hp] at w
  obtain ⟨ow', S', k'⟩ := S.frz (vs.flatMap (esc G Γ.sc 40)) (Γ := Γ)
  exact ⟨H0, ow0, Hk, owk, ow', _, s, S', kk.trans k', (Wp.of_stE w).mono (fun _ _ h => h) fun x s' q => rzX S' q⟩
theorem scal_rp {ow ow' : Ow} {H H' : Hp} {d : Py.D} {v : V} (hs : scal d = true) (r : Rp U ow H d v) : Rp U ow' H' d v := by
  cases d with
  | int i => unfold Rp at r ⊢; exact r
  | bool i => unfold Rp at r ⊢; exact r
  | str i => unfold Rp at r ⊢; exact r
  | none => unfold Rp at r ⊢; exact r
  | _ => cases hs
def nilD : Expr → Py.D
  | .Dict _ _ _ => .dict []
  | _ => .list []
def nilU : Expr → HO
  | .Dict _ _ _ => .dK []
  | _ => .lst []
theorem isNil_eq {e : Expr} (h : isNil e = true) : (∃ p, e = .List [] p) ∨ ∃ p, e = .Dict [] [] p := by
  unfold isNil at h
  split at h
  · exact .inl ⟨_, rfl⟩
  · exact .inr ⟨_, rfl⟩
  · cases h
def tNil (u : HO) : TE := fun _ H Q => ∀ p, H p = none → Q (.ref p) (upd H p u)
theorem isNil_pe {e : Expr} (h : isNil e = true) : PE X e (tNil (nilU e)) := by
  rcases isNil_eq h with ⟨p, rfl⟩ | ⟨p, rfl⟩
  · exact PE.imp (pe_lst pa_nil) fun σ H Q h => ⟨by show 0 ≤ _; exact Nat.zero_le _, fun p np => h p np⟩
  · exact pe_dnewK
theorem isNil_star {e : Expr} (h : isNil e = true) : notStar e = true := by
  rcases isNil_eq h with ⟨p, rfl⟩ | ⟨p, rfl⟩ <;> rfl
theorem isNil_sh {e : Expr} (h : isNil e = true) (ow : Ow) (H : Hp) : Sh U ow H (nilD e) (nilU e) := by
  rcases isNil_eq h with ⟨p, rfl⟩ | ⟨p, rfl⟩
  · exact .inl ⟨[], [], rfl, rfl, RpL.nil⟩
  · exact .inr ⟨[], [], rfl, rfl, RpD.nil⟩
theorem isNil_rp {e : Expr} (h : isNil e = true) {ow : Ow} {H : Hp} {p : Addr} (hc : p ≠ U.cap) (ho : ow p = none) : Rp U ow (upd H p (nilU e)) (nilD e) (.ref p) := by
  rcases isNil_eq h with ⟨p, rfl⟩ | ⟨p, rfl⟩
  · unfold nilD nilU Rp; exact ⟨_, [], rfl, ⟨upd_same, ho, hc⟩, RpL.nil⟩
  · unfold nilD nilU Rp; exact .inr ⟨_, [], rfl, .inl ⟨upd_same, ho, hc⟩, RpD.nil⟩
theorem setPar_ff {a b : Expr} (ha : isNil a = isNil b) {σd : St} {is : List Nat} {ds : List Py.D} : setPar ([a, b].map isNil) σd is ds = setAll σd is ds := by
  show setPar [isNil a, isNil b] σd is ds = _
  rw [ha]
  cases isNil b <;> rfl
theorem evs2_wp {f : Expr → M Py.D} {a b : Expr} {s : DS} {Q : List Py.D → DS → Prop} {E : Exc → DS → Prop} (w : Wp (evs f [a, b]) s Q E) : Wp (f a) s (fun d s1 => Wp (f b) s1 (fun e s2 => Q [d, e] s2) E) E := by
  unfold evs at w
  obtain ⟨_, w⟩ := Wp.of_guard w
  refine w.of_bind.mono (fun d s1 w => ?_) fun _ _ h => h
  unfold evs at w
  have w := w.of_bind
  obtain ⟨_, w⟩ := Wp.of_guard w
  refine w.of_bind.mono (fun e s2 w => ?_) fun _ _ h => h
  exact ((show Wp (pure [] : M (List Py.D)) s2 _ _ from w.of_bind).of_pure).of_pure.of_pure
theorem ps_par1 (g : GoodS U k Γ X W) {ts vs : List Expr} {kt k2 : Nat} {pt pt2 pos : Pos} (he : ∀ e, PE X e (tOf U W (fun σ => ev Γ σ e) fun _ => false)) (hnil : ∀ e, isNil e = true → (∀ σ, ev Γ σ e = pure (nilD e)) ∨ ∀ σ, ev Γ σ e = fail) :
    PS X (.Assign [.Tuple ts kt pt] (.Tuple vs k2 pt2) pos) (tOfS U W (fun σ => stPar G ev Γ σ ts vs)) := by
  cases hn : namesOf ts with
  | none => exact PS.fails fun σ => by unfold stPar; rw [hn]
  | some xs =>
    by_cases hp : parOk Γ ts vs xs = true ∧ xs.all (setOk Γ) = true
    case neg =>
      refine PS.fails fun σ => ?_
      unfold stPar
      rw [hn]
      dsimp only
      rw [if_neg hp]
    obtain ⟨p1, p2, p3, p4, p5, p6, p7, p8⟩ := parOk_ok hp.1
    have hsk : X.env.scope.kind = .function := by rw [g.sc]; exact g.fk
    have hloc : ∀ x ∈ xs, X.env.scope.names.lookup x = some .local := fun x hx => by rw [g.sc]; exact p4 x hx
    have hsw : swappedStores [.Tuple ts kt pt] (.Tuple vs k2 pt2) X.env = pure (some xs) := sw_par hsk hn hloc p3 p1 p2 p5 p6 p7 p8
    have hidx : ∀ x ∈ xs, ∃ i, Γ.N.idxOf? x = some i := fun x hx => (setOk_ok (List.all_eq_true.mp hp.2 x hx)).2.2
    have pa := pa_evs (X := X) (f := ev Γ) he vs
    match ts, vs, hn, p1, p2 with
    | [.Name x px, .Name y py], [a, b], hn, _, _ =>
      cases hn
      obtain ⟨i, hi⟩ := hidx x (by simp)
      obtain ⟨j, hj⟩ := hidx y (by simp)
      have hpar := fun {t : TA} (pa : PA X [a, b] t) => ps_par (i := i) (j := j) (pt := pt) (pt2 := pt2) (kt := kt) (k2 := k2) (pos := pos) g.calm (by rw [g.N]; exact g.nd) (by rw [g.N]; exact idxOf_get hi) (by rw [g.N]; exact idxOf_get hj) (idx_ne hi hj (dup2 p5)) (hloc x (by simp)) (hloc y (by simp)) pa hsw rfl
      have hix : idxL Γ [x, y] = [i, j] := by simp [idxL, hi, hj]
      by_cases hna : isNil a = true ∧ isNil b = false
      · obtain ⟨hna, hnb⟩ := hna
        have nsb : notStar b = true := by
          have := List.all_eq_true.mp p6 b (by simp)
          exact this
        refine PS.imp (hpar (pa_cons (isNil_pe hna) (pa_cons (he b) pa_nil (starEach_ns nsb)) (starEach_ns (isNil_star hna)))) fun D σ H h => ?_
        obtain ⟨H0, ow0, Hk, owk, ow, σd, s, S, kk, w⟩ := par_imp (ts := [.Name x px, .Name y py]) rfl hp h
        have w := evs2_wp w
        rcases hnil a hna with hz | hz
        · rw [hz] at w
          have w := w.of_pure
          intro p np
          have hc := S.nocap np
          refine ⟨H0, ow0, ow, σd, s, S.ext (Ext.new np) (S.cap.new np), w.mono (fun d s' q v H' e c r _ => ?_) fun xx s' q => q.ext (Ext.new np)⟩
          obtain ⟨σ', hs, q⟩ := nx1_wp q
          have eH : Ext U H H' := (Ext.new np).trans e
          have hn0 : Rp U ow H' (nilD a) (.ref p) := (isNil_rp hna hc (S.noow np)).ext e
          refine ⟨_, _, rfl, ?_⟩
          rw [hix] at hs
          by_cases hsc : scal d = true
          · have hs : some ((σd.set i (some (nilD a, true))).set j (some (d, false))) = some σ' := by
              have z : setPar [isNil a, isNil b] σd [i, j] [nilD a, d] = _ := hs
              rw [hna, hnb] at z
              have z : (if scal d = true then some ((σd.set i (some (nilD a, true))).set j (some (d, false))) else setAll σd [i, j] [nilD a, d]) = _ := z
              rwa [if_pos hsc] at z
            cases hs
            have rf : RF U ow H H' (nilD a) (.ref p) := ⟨p, _, rfl, np, e p _ hc upd_same, hc, fun _ => isNil_sh hna _ _⟩
            obtain ⟨ow2, S2, k2⟩ := S.setOwn eH c (i := i) rf
            exact q _ _ _ (S2.set (scal_rp hsc r)) (kk.trans k2)
          · have hs : setAll σd [i, j] [nilD a, d] = some σ' := by
              have z : setPar [isNil a, isNil b] σd [i, j] [nilD a, d] = _ := hs
              rw [hna, hnb] at z
              have z : (if scal d = true then some ((σd.set i (some (nilD a, true))).set j (some (d, false))) else setAll σd [i, j] [nilD a, d]) = _ := z
              rwa [if_neg hsc] at z
            cases hs
            exact q _ _ _ (((S.ext eH c).set hn0).set r) (kk.trans eH.keep)
        · rw [hz] at w
          exact w.of_fail.elim
      by_cases hnb : isNil a = false ∧ isNil b = true
      · obtain ⟨ha2, hb2⟩ := hnb
        have nsa : notStar a = true := by
          have := List.all_eq_true.mp p6 a (by simp)
          exact this
        refine PS.imp (hpar (pa_cons (he a) (pa_cons (isNil_pe hb2) pa_nil (starEach_ns (isNil_star hb2))) (starEach_ns nsa))) fun D σ H h => ?_
        obtain ⟨H0, ow0, Hk, owk, ow, σd, s, S, kk, w⟩ := par_imp (ts := [.Name x px, .Name y py]) rfl hp h
        have w := evs2_wp w
        refine ⟨H0, ow0, ow, σd, s, S, w.mono (fun d s1 w v H1 e c r _ => ?_) fun _ _ h => h⟩
        rcases hnil b hb2 with hz | hz
        · rw [hz] at w
          have q := w.of_pure
          intro p np
          have S1 := S.ext e c
          have hc := S1.nocap np
          have np0 := e.none hc np
          obtain ⟨σ', hs, q⟩ := nx1_wp q
          have eH : Ext U H (upd H1 p (nilU b)) := e.trans (Ext.new np)
          have c2 := S1.cap.new (o := nilU b) np
          have hn0 : Rp U ow (upd H1 p (nilU b)) (nilD b) (.ref p) := isNil_rp hb2 hc (S1.noow np)
          have r2 := r.ext (Ext.new (o := nilU b) np)
          refine ⟨_, _, rfl, ?_⟩
          rw [hix] at hs
          by_cases hsc : scal d = true
          · have hs : some ((σd.set i (some (d, false))).set j (some (nilD b, true))) = some σ' := by
              have z : setPar [isNil a, isNil b] σd [i, j] [d, nilD b] = _ := hs
              rw [ha2, hb2] at z
              have z : (if scal d = true then some ((σd.set i (some (d, false))).set j (some (nilD b, true))) else setAll σd [i, j] [d, nilD b]) = _ := z
              rwa [if_pos hsc] at z
            cases hs
            have rf : RF U ow H (upd H1 p (nilU b)) (nilD b) (.ref p) := ⟨p, _, rfl, np0, upd_same, hc, fun _ => isNil_sh hb2 _ _⟩
            have S0 : SR U H0 ow0 ow (σ.set i (some v)) H (σd.set i (some (d, false))) s := S.set (scal_rp hsc r)
            obtain ⟨ow2, S2, k2⟩ := S0.setOwn eH c2 (i := j) rf
            exact q _ _ _ S2 (kk.trans k2)
          · have hs : setAll σd [i, j] [d, nilD b] = some σ' := by
              have z : setPar [isNil a, isNil b] σd [i, j] [d, nilD b] = _ := hs
              rw [ha2, hb2] at z
              have z : (if scal d = true then some ((σd.set i (some (d, false))).set j (some (nilD b, true))) else setAll σd [i, j] [d, nilD b]) = _ := z
              rwa [if_neg hsc] at z
            cases hs
            exact q _ _ _ (((S.ext eH c2).set r2).set hn0) (kk.trans eH.keep)
        · rw [hz] at w
          exact w.of_fail.elim
      have hff : isNil a = isNil b := by
        cases h1 : isNil a <;> cases h2 : isNil b
        · rfl
        · exact absurd ⟨h1, h2⟩ hnb
        · exact absurd ⟨h1, h2⟩ hna
        · rfl
      refine PS.imp (hpar pa) fun D σ H h => ?_
      obtain ⟨H0, ow0, Hk, owk, ow, σd, s, S, kk, w⟩ := par_imp (ts := [.Name x px, .Name y py]) rfl hp h
      refine ⟨H0, ow0, ow, σd, s, S, (evs_wp w).mono (fun ds s' ⟨hl, q⟩ vs H' e' c r => ?_) fun _ _ h => h⟩
      match ds, hl with
      | [d1, d2], _ =>
        obtain ⟨σ', hs, q⟩ := nx1_wp q
        rw [setPar_ff hff, hix] at hs
        cases hs
        unfold RpL at r
        obtain ⟨v, vr, rfl, r1, r⟩ := r
        unfold RpL at r
        obtain ⟨v2, vr2, rfl, r2, r⟩ := r
        unfold RpL at r
        subst r
        exact ⟨v, v2, rfl, q _ _ _ (((S.ext e' c).set r1).set r2) (kk.trans e'.keep)⟩
    | [.Name x px, .Name y py, .Name z pz], [a, b, cc], hn, _, _ =>
      cases hn
      obtain ⟨i, hi⟩ := hidx x (by simp)
      obtain ⟨j, hj⟩ := hidx y (by simp)
      obtain ⟨l, hl⟩ := hidx z (by simp)
      obtain ⟨n1, n2, n3⟩ := dup3 p5
      refine PS.imp (ps_par3 (i := i) (j := j) (l := l) g.calm (by rw [g.N]; exact g.nd) (by rw [g.N]; exact idxOf_get hi) (by rw [g.N]; exact idxOf_get hj) (by rw [g.N]; exact idxOf_get hl) (idx_ne hi hj n1) (idx_ne hi hl n2) (idx_ne hj hl n3)
        (hloc x (by simp)) (hloc y (by simp)) (hloc z (by simp)) pa hsw rfl) fun D σ H h => ?_
      obtain ⟨H0, ow0, Hk, owk, ow, σd, s, S, kk, w⟩ := par_imp (ts := [.Name x px, .Name y py, .Name z pz]) rfl hp h
      refine ⟨H0, ow0, ow, σd, s, S, (evs_wp w).mono (fun ds s' ⟨hl', q⟩ vs H' e' c r => ?_) fun _ _ h => h⟩
      match ds, hl' with
      | [d1, d2, d3], _ =>
        obtain ⟨σ', hs, q⟩ := nx1_wp q
        have hs : setPar ([a, b, cc].map isNil) σd (idxL Γ [x, y, z]) [d1, d2, d3] = some σ' := hs
        rw [show setPar ([a, b, cc].map isNil) σd (idxL Γ [x, y, z]) [d1, d2, d3] = setAll σd (idxL Γ [x, y, z]) [d1, d2, d3] from by cases h1 : isNil a <;> cases h2 : isNil b <;> cases h3 : isNil cc <;> simp [setPar, h1, h2, h3]] at hs
        rw [show idxL Γ [x, y, z] = [i, j, l] from by simp [idxL, hi, hj, hl]] at hs
        cases hs
        unfold RpL at r
        obtain ⟨v, vr, rfl, r1, r⟩ := r
        unfold RpL at r
        obtain ⟨v2, vr2, rfl, r2, r⟩ := r
        unfold RpL at r
        obtain ⟨v3, vr3, rfl, r3, r⟩ := r
        unfold RpL at r
        subst r
        exact ⟨v, v2, v3, rfl, q _ _ _ ((((S.ext e' c).set r1).set r2).set r3) (kk.trans e'.keep)⟩
end
end Py

set_option Elab.async false
set_option linter.all false
set_option maxRecDepth 100000
set_option maxHeartbeats 1000000
namespace Py
open PySem PySem.Spec PyProof.Rows L2
section
variable {U : Wd} {k : Nat} {Γ : Cxt} {X : Cx} {W : WX} {G : Gs} {ow ow0 : Ow} {H H0 H1 : Hp} {s s1 : DS} {σ : L2.St} {σd : St} {D : Ends} {ev : Cxt → St → Expr → M Py.D}
theorem ps_exp1 (g : GoodS U k Γ X W) {e : Expr} {pos : Pos} {fr : Py.D → Bool} (he : PE X e (tOf U W (fun σ => ev Γ σ e) fr)) : PS X (.Expr e pos) (tOfS U W (fun σ => stExp G ev Γ σ e)) := by
  by_cases hl : listComp e = true
  · exact PS.fails fun σ => by unfold stExp; rw [if_pos hl]
  · have hs : swapsWith e none pos.line X.env = pure false := by
      cases e <;> first | rfl | exact absurd rfl hl
    refine PS.imp (ps_expr he hs) fun D σ H h => ?_
    obtain ⟨H0, ow0, Hk, owk, ow, σd, s, S, kk, w⟩ := h
    have w : Wp (stExp G ev Γ σd e) s _ _ := w
    unfold stExp at w
    rw [if_neg hl] at w
    obtain ⟨ow', S', k'⟩ := S.frz (esc G Γ.sc 40 e) (Γ := Γ)
    exact ⟨H0, ow0, ow', _, s, S', (Wp.of_stE w).mono (fun d s' q v H' e' c r rf => q.of_pure _ _ _ (S'.ext e' c) (kk.trans (k'.trans e'.keep))) (fun x s' q => rzX S' q)⟩
theorem RF.fr {H' : Hp} {d : Py.D} {v : V} (h : RF U ow H H' d v) (b : Ext U H0 H) : FrR U H0 ow H' d v := by
  obtain ⟨a, u, e2, hn, ha, hc, r⟩ := h
  exact ⟨a, u, e2, b.none hc hn, ha, hc, r 0⟩
theorem SR.ownFr (S : SR U H0 ow0 ow σ H σd s) {i : Nat} {d : Py.D} {a : Addr} {u : HO} (ha : H a = some u) (ho : ow a = some (i + 1)) (hc : a ≠ U.cap) (r : Sh U ow H d u) : FrR U H0 ow H d (.ref a) :=
  ⟨a, u, rfl, S.own0 a i ho, ha, hc, Sh.mono (fun b u _ hob e => ⟨e, by
    show (if b = a then some 0 else ow b) = none
    rw [if_neg (fun z => by subst z; rw [ho] at hob; cases hob)]; exact hob⟩) r⟩
/-- return e -/
theorem ps_ret1 (g : GoodS U k Γ X W) {e : Expr} {pos : Pos} (he : PE X e (tOf U W (fun σ => ev Γ σ e) (freshE G 40 e))) : PS X (.Return (some e) pos) (tOfS U W (fun σ => stRet G ev Γ σ e)) := by
  refine PS.imp (ps_ret he) fun D σ H h => ?_
  obtain ⟨H0, ow0, Hk, owk, ow, σd, s, S, kk, w⟩ := h
  have w : Wp (stRet G ev Γ σd e) s _ _ := w
  unfold stRet at w
  obtain ⟨ow', S', k'⟩ := S.frz Γ.N (Γ := Γ)
  exact ⟨H0, ow0, ow', _, s, S', (Wp.of_stE w).mono (fun d s' q v H' e' c r rf => q.of_pure _ _ _ _ _ (S'.ext e' c) (fun _ => r) fun z => (rf z).fr S'.base) (fun x s' q => rzX S' q)⟩
theorem ps_retN1 (g : GoodS U k Γ X W) {x : Str} {p pos : Pos} (he : PE X (.Name x p) (tOf U W (fun σ => ev Γ σ (.Name x p)) fun _ => false)) : PS X (.Return (some (.Name x p)) pos) (tOfS U W (fun σ => stRetN ev Γ σ x p)) := by
  refine ⟨fun pins s' σ H D I h => ?_⟩
  obtain ⟨H0, ow0, Hk, owk, ow, σd, s, S, kk, w⟩ := h
  have w : Wp (stRetN ev Γ σd x p) s _ _ := w
  unfold stRetN at w
  cases hl : ownL Γ σd x with
  | none =>
    rw [hl] at w
    dsimp only at w
    cases hd : ownD Γ σd x with
    | some pr =>
      obtain ⟨j, kvs⟩ := pr
      rw [hd] at w
      obtain ⟨_, w⟩ := Wp.of_guard w
      obtain ⟨hok, hj, hd⟩ := ownD_ok hd
      obtain ⟨a, xs, hv, hla, hoa, hca, rl⟩ := S.ownedD hd
      exact (ps_ret (pv_own g.toGood hok hj)).run pins s' σ H D I ⟨_, hv, w.of_pure _ _ _ _ _ S (fun z => nomatch z) fun _ => S.ownFr hla hoa hca (.inr ⟨_, _, rfl, rfl, rl⟩)⟩
    | none =>
    rw [hd] at w
    exact (ps_ret he).run pins s' σ H D I ⟨H0, ow0, ow, σd, s, S, (Wp.of_stE w).mono (fun d s' q v H' e' c r rf => q.of_pure _ _ _ _ _ (S.ext e' c) (fun _ => r) fun z => nomatch z) (fun x s' q => rzX S q)⟩
  | some pr =>
    obtain ⟨j, ds⟩ := pr
    rw [hl] at w
    obtain ⟨hok, hj, hd⟩ := ownL_ok hl
    obtain ⟨a, xs, hv, hla, hoa, hca, rl⟩ := S.owned hd
    exact (ps_ret (pv_own g.toGood hok hj)).run pins s' σ H D I ⟨_, hv, w.of_pure _ _ _ _ _ S (fun z => nomatch z) fun _ => S.ownFr hla hoa hca (.inl ⟨_, _, rfl, rfl, rl⟩)⟩
/-- raise C(".") -/
theorem ps_raise1 (g : GoodS U k Γ X W) (go : GlOk U k G) {c m : Str} {p1 p2 p3 pos : Pos} {j : Nat} : PS X (.Raise (some (.Call (.Name c p1) [.Constant (.str m) j p2] [] p3)) none pos) (tOfS U W (fun σ => stRaise G Γ σ c m)) := by
  by_cases hc : okName c = true ∧ kindG Γ.sc c = true ∧ G.exc c = true
  case neg => exact PS.fails fun σ => by unfold stRaise; rw [if_neg hc]
  obtain ⟨C, hm, hk, _⟩ := go.exc c hc.2.2
  obtain ⟨hd, _, _⟩ := okName_d hc.1
  rcases hk with ⟨hi, bmB, B, newId, initId, F, q, kC, hr⟩ | ⟨hi, fI, T⟩
  · refine PS.imp (ps_raise g.calm g.tk (pmk_own (j := j) F (by rw [g.K]; exact q) (by rw [g.mg]; exact hm) (by rw [g.K]; exact kC) (hr X g.K) (kindG_gl g.toGood hc.2.1) hd)) fun D σ H h => ?_
    obtain ⟨H0, ow0, Hk, owk, ow, σd, s, S, kk, w⟩ := h
    have w : Wp (stRaise G Γ σd c m) s _ _ := w
    unfold stRaise at w
    rw [if_pos hc, hi, if_neg Bool.false_ne_true] at w
    exact w.of_pure _ _ _ _ _ S ⟨hm, .inl ⟨rfl, rfl⟩⟩
  · refine PS.imp (ps_raise g.calm g.tk (pmk_ref (C := C) (fI := fI) (k := k) (by rw [g.P, g.K]; exact T) (by rw [g.mg]; exact hm) g.room (pa_cons pe_str pa_nil) (kindG_gl g.toGood hc.2.1) hd)) fun D σ H h => ?_
    obtain ⟨H0, ow0, Hk, owk, ow, σd, s, S, kk, w⟩ := h
    have w : Wp (stRaise G Γ σd c m) s _ _ := w
    unfold stRaise at w
    rw [if_pos hc, hi, if_pos rfl] at w
    refine ⟨.str m, rfl, fun d nd => ?_⟩
    exact w.of_pure _ _ _ _ _ (S.ext (Ext.new nd) (S.cap.new nd)) ⟨hm, .inr ⟨m, d, rfl, rfl, upd_same⟩⟩
/-! ### what holds statements -/
/-- suites -/
def SndSs (U : Wd) (k : Nat) (Γ : Cxt) (ex : St → List Stmt → M Flow) : Prop := ∀ X W, GoodS U k Γ X W → ∀ sts, PSs X sts (tOfS U W (fun σ => ex σ sts))
theorem ps_if1 (g : GoodS U k Γ X W) {ex : St → List Stmt → M Flow} (hx : SndSs U k Γ ex) {c : Expr} {a b : List Stmt} {pos : Pos} (hc : PT X c (tOfT U W (fun σ => tst (ev Γ σ) c))) :
    PS X (.If c a b pos) (tOfS U W (fun σ => stE (tst (ev Γ σ) c) σ fun t => if t = true then ex σ a else ex σ b)) := by
  refine PS.imp (ps_if hc (hx X W g a) (hx X W g b)) fun D σ H h => ?_
  obtain ⟨H0, ow0, Hk, owk, ow, σd, s, S, kk, w⟩ := h
  refine ⟨H0, ow0, ow, σd, s, S, (Wp.of_stE w).mono (fun t s' q H' e' c => ?_) (fun x s' q => rzX S q)⟩
  cases t with
  | true => exact ⟨H0, ow0, Hk, owk, ow, σd, s', S.ext e' c, kk.trans e'.keep, q⟩
  | false => exact ⟨H0, ow0, Hk, owk, ow, σd, s', S.ext e' c, kk.trans e'.keep, q⟩
theorem ps_while1 (g : GoodS U k Γ X W) {ex : St → List Stmt → M Flow} (hx : SndSs U k Γ ex) {c : Expr} {body : List Stmt} {pos : Pos} {w0 : St → Nat} (hc : PT X c (tOfT U W (fun σ => tst (ev Γ σ) c))) :
    PS X (.While c body [] pos) (tOfS U W (fun σ => whileL (fun σ => tst (ev Γ σ) c) (fun σ => ex σ body) (w0 σ) σ)) := by
  refine PS.imp (ps_while g.hp hc (hx X W g body)) fun D σ H h => ?_
  obtain ⟨H0, ow0, Hk, owk, ow, σd, s, S, kk, w⟩ := h
  refine ⟨fun m σ H => ∃ ow σd s, SR U H0 ow0 ow σ H σd s ∧ Keep U owk ow Hk H ∧ Wp (whileL (fun σ => tst (ev Γ σ) c) (fun σ => ex σ body) m σd) s (PostF U H0 ow0 Hk owk W D) fun _ _ => False, ⟨w0 σd, ow, σd, s, S, kk, w⟩, ?_⟩
  rintro m σ H ⟨ow, σd, s, S, kk, w⟩
  cases m with
  | zero => exact w.of_fail.elim
  | succ m =>
    refine ⟨H0, ow0, ow, σd, s, S, (Wp.of_stE w).mono (fun t s' q H' e' c => ?_) (fun x s' q => rzX S q)⟩
    cases t with
    | false => exact (show Wp (pure (Flow.nx σd)) s' _ _ from q).of_pure _ _ _ (S.ext e' c) (kk.trans e'.keep)
    | true =>
      rw [if_pos rfl] at q ⊢
      refine ⟨_, fun σ' H' z => ⟨m, Nat.lt_succ_self m, z⟩, H0, ow0, Hk, owk, ow, σd, s', S.ext e' c, kk.trans e'.keep, q.of_bind.mono (fun fl s2 q2 => ?_) fun _ _ z => z⟩
      cases fl with
      | nx σ' => exact fun ow σ H S k => ⟨ow, σ', s2, S, k, q2⟩
      | ct σ' => exact fun ow σ H S k => ⟨ow, σ', s2, S, k, q2⟩
      | brk σ' => exact fun ow σ H S k => q2.of_pure ow σ H S k
      | ret d o => exact fun ow σ H σd v S k1 k2 => q2.of_pure ow σ H σd v S k1 k2
      | rz x σ' => exact fun ow σ H cls od S r => q2.of_pure ow σ H cls od S r
theorem ps_for1 (g : GoodS U k Γ X W) (go : GlOk U k G) {ex : St → List Stmt → M Flow} (hx : SndSs U k Γ ex) {tg it : Expr} {body : List Stmt} {pos : Pos} (he : ∀ e, PE X e (tOf U W (fun σ => ev Γ σ e) fun _ => false)) :
    PS X (.For tg it body [] pos) (tOfS U W (fun σ => stFor G ev ex Γ σ tg it body)) := by
  have hq : ∀ e, PE X e (tOfQ U W (Rp U) (fun σ => ev Γ σ e)) := fun e => PE.imp (he e) fun σ H Q ⟨H0, ow0, ow, σd, s, S, w⟩ => ⟨H0, ow0, ow, σd, s, S, w.mono (fun d s' q v H' e c r _ => q v H' e c r) fun _ _ h => h⟩
  have pi := pi_iterE (tg := tg) (it := it) g.toGood go (srcK U) (f := fun σ => ev Γ σ) hq
  rcases pi.2 with hsf | hsf
  case inr =>
    exact PS.fails fun σ => by
      unfold stFor
      dsimp only
      rw [hsf]; rfl
  refine PS.imp (ps_for g.hp g.calm pi.1 (pg_I g.toGood tg) (hx X W g body) hsf) fun D σ H h => ?_
  obtain ⟨H0, ow0, Hk, owk, ow, σd, s, S, kk, w⟩ := h
  have w : Wp (stFor G ev ex Γ σd tg it body) s _ _ := w
  unfold stFor at w
  dsimp only at w
  obtain ⟨ow1, S1, k1⟩ := S.frz (esc G Γ.sc 40 it) (Γ := Γ)
  obtain ⟨ow2, S2, k2⟩ := S1.frz (iterNames it) (Γ := Γ)
  refine ⟨H0, ow0, ow2, _, s, S2, (Wp.of_stE w).mono (fun items s' q J H1 e1 c1 ito => ?_) (fun x s' q => rzX S2 q)⟩
  have kk1 := kk.trans (k1.trans (k2.trans e1.keep))
  refine ⟨fun i m σ H => m = items.length - i ∧ i ≤ items.length ∧ ∃ ow' σd' si, SR U H0 ow0 ow' σ H σd' si ∧ Keep U ow2 ow' H1 H ∧ Wp (forL (fun σ d => bindT Γ σ tg d) (fun σ => ex σ body) (items.drop i) σd') si (PostF U H0 ow0 Hk owk W D) fun _ _ => False,
    ⟨items.length, by simp, Nat.zero_le _, ow2, _, s', S2.ext e1 c1, Keep.refl, by rw [List.drop_zero]; exact q⟩, ?_⟩
  rintro i m σ H ⟨rfl, hi, ow', σd', si, S', k', w'⟩
  obtain ⟨hgo, hstop⟩ := ito ow' H si k' S'.hk
  by_cases hlt : i < items.length
  · have hxi : items[i]? = some items[i] := List.getElem?_eq_getElem hlt
    obtain ⟨go', hy⟩ := hgo i _ hxi
    have hdr : items.drop i = items[i] :: items.drop (i + 1) := List.drop_eq_getElem_cons hlt
    rw [hdr] at w'
    unfold forL at w'
    cases hb : bindT Γ σd' tg items[i] with
    | none => rw [hb] at w'; exact w'.of_fail.elim
    | some σ2d =>
      rw [hb] at w'
      refine .inr ⟨go', _, fun σ' H' z => ⟨items.length - (i + 1), by omega, rfl, hlt, z⟩, fun x H3 yl => ?_⟩
      obtain ⟨e3, c3, rx⟩ := hy x H3 yl
      have S3 := S'.ext e3 c3
      refine ⟨H0, ow0, ow', _, si, items[i], σ2d, S3, rx, bindT_to hb, fun σ2 S4 _ => ?_⟩
      refine ⟨H0, ow0, H1, ow2, ow', σ2d, si, S4, k'.trans e3.keep, w'.of_bind.mono (fun fl s2 q2 => ?_) fun _ _ z => z⟩
      cases fl with
      | nx σ' => exact fun ow σ H S k => ⟨ow, σ', s2, S, k, q2⟩
      | ct σ' => exact fun ow σ H S k => ⟨ow, σ', s2, S, k, q2⟩
      | brk σ' => exact fun ow σ H S k => q2.of_pure ow σ H S (kk1.trans k)
      | ret d o => exact fun ow σ H σd v S k1 k2 => q2.of_pure ow σ H σd v S k1 k2
      | rz x σ' => exact fun ow σ H cls od S r => q2.of_pure ow σ H cls od S r
  · have hi2 : i = items.length := by omega
    subst hi2
    rw [List.drop_length] at w'
    exact .inl ⟨hstop, (show Wp (pure (Flow.nx σd')) si _ _ from w').of_pure _ _ _ S' (kk1.trans k')⟩
/-- try: .. except C [as n]: return a value -/
def scV : Py.D → Option V
  | .int i => some (.int i)
  | .str i => some (.str i)
  | .bool i => some (.bl i)
  | .none => some .non
  | _ => none
theorem scV_rp {d : Py.D} {v : V} (h : scV d = some v) : Rp U ow H d v := by
  cases d <;> first | (cases h; first | exact Rp.int | exact Rp.str | exact Rp.bool | exact Rp.none) | cases h
/-- the clause's value, where the error x is at a -/
def tHx (Γ : Cxt) (on : Option Str) (a : Addr) (x : Exc) (od : Option Addr) (v : V) : TE := fun σ H Q => ((∀ n, on = some n → ∃ i, Γ.N.idxOf? n = some i ∧ σ[i]? = some (some (.ref a))) ∧ XFl H x.flds od) ∧ Q v H
theorem XFl.dok {H : Hp} {fs : List (Str × Py.D)} {od : Option Addr} (h : XFl H fs od) : DOk H od := by
  rcases h with ⟨_, h⟩ | ⟨m, a, _, h, e⟩
  · exact .inl h
  · exact .inr ⟨a, _, h, e⟩
theorem PE.none_ {X : Cx} {e : Expr} : PE X e (fun _ _ _ => False) := ⟨fun _ _ _ _ _ _ h => h.elim⟩
theorem hexp_pe (g : GoodS U k Γ X W) (go : GlOk U k G) {on : Option Str} {x : Exc} {a : Addr} {oe : Obj} {pn : List (Addr × Obj)} {cls : Value} {od : Option Addr} (hx : U.mg x.cls = some cls) (hxe : G.exc x.cls = true) (hz : Zc cls od oe) (hf : ∃ vs, oe.data = .fields vs) (hon : onOk Γ on = true) :
    ∀ (m : Nat) (e : Expr) (d : Py.D) (v : V), hexp G Γ on x m e = some d → scV d = some v → PE (X.suite a ((a, oe) :: pn)) e (tHx Γ on a x od v)
  | 0, _, _, _, h, _ => by cases h
  | m + 1, e, d, v, h, hv => by
    unfold hexp at h
    split at h
    · rename_i h2; cases h2
    · cases h; cases hv; exact PE.imp pe_int fun σ H Q q => q.2
    · cases h; cases hv; exact PE.imp pe_str fun σ H Q q => q.2
    · cases h; cases hv; exact PE.imp pe_bl fun σ H Q q => q.2
    · cases h; cases hv; exact PE.imp pe_non fun σ H Q q => q.2
    · split at h
      · rename_i n pn0 F pF0 pC hm hc
        obtain ⟨rfl, h1, h2, ⟨h3, h4⟩, h5⟩ := hc
        cases hs : G.sub x.cls F with
        | none => rw [hs] at h; cases h
        | some b =>
          rw [hs] at h
          cases h
          cases hv
          obtain ⟨C, cv, vc, hC, EC, hF, rv, ru, hk⟩ := go.sub x.cls F b hs
          rw [hx] at hC
          cases hC
          unfold gname at h1
          simp only [Bool.and_eq_true] at h1
          obtain ⟨k1, k2, k3, k4⟩ := gname_ok g.toGood go h1.1.1 h1.1.2 h1.2
          obtain ⟨d1, d2, d3⟩ := okName_d h4
          obtain ⟨e1, e2, e3⟩ := okName_d h3
          have gF : Gl X F := kindG_gl g.toGood h5
          have pF : PE (X.suite a ((a, oe) :: pn)) (.Name F pF0) (tC vc) := by
            rcases hF with hF | ⟨hF, hb⟩
            · exact pe_glob (X := X.suite a ((a, oe) :: pn)) gF (by show X.mg F = _; rw [g.mg]; exact hF) rv d1
            · exact pe_bltn (X := X.suite a ((a, oe) :: pn)) gF (by show X.mg F = _; rw [g.mg]; exact hF) hb rv d3 d1
          subst h2
          unfold onOk at hon
          rw [Bool.and_eq_true] at hon
          obtain ⟨i, hi⟩ := Option.isSome_iff_exists.mp hon.2
          have pn' := pe_var (X := X.suite a ((a, oe) :: pn)) (i := i) (x := n) (pos := pn0) (by show X.N[i]? = _; rw [g.N]; exact idxOf_get hi) (by show Vis X.env.scope n; rw [g.sc]; exact .inl (isLocal_ok hon.1)) e1 e2
          have EC' : ExcC X.K C := by rw [g.K]; exact EC
          refine PE.imp (pe_callB (X := X.suite a ((a, oe) :: pn)) (call_isX EC' hz hf) k1 k2 bare_isi (pa_cons pn' (pa_cons pF pa_nil))) fun σ H Q q => ?_
          obtain ⟨i', hi', hσ⟩ := q.1.1 n rfl
          rw [hi] at hi'; cases hi'
          exact ⟨_, hσ, vc, cv, b, rfl, ru, by show PySem.W.kitOne X.K _ _ = _; rw [g.K]; exact hk, q.1.2.dok, q.2⟩
      · cases h
    · split at h
      · rename_i n pn0 f pA hm hc
        obtain ⟨rfl, h2, h3⟩ := hc
        obtain ⟨h4, h⟩ := (show G.ini x.cls = true ∧ (match x.flds with
          | [(_, .str m)] => some (PyData.str m)
          | _ => none) = some d from by
          split at h
          · rename_i h4; exact ⟨h4, h⟩
          · cases h)
        split at h
        · rename_i ky mm hfl
          cases h
          cases hv
          obtain ⟨C, hmC, hk, _⟩ := go.exc x.cls hxe
          rw [hx] at hmC
          cases hmC
          rcases hk with ⟨hi0, _⟩ | ⟨_, fI, T⟩
          · rw [hi0] at h4; cases h4
          · obtain ⟨e1, e2, e3⟩ := okName_d h3
            subst h2
            unfold onOk at hon
            rw [Bool.and_eq_true] at hon
            obtain ⟨i, hi⟩ := Option.isSome_iff_exists.mp hon.2
            have pn' := pe_var (X := X.suite a ((a, oe) :: pn)) (i := i) (x := n) (pos := pn0) (by show X.N[i]? = _; rw [g.N]; exact idxOf_get hi) (by show Vis X.env.scope n; rw [g.sc]; exact .inl (isLocal_ok hon.1)) e1 e2
            refine PE.imp (pe_byRef (X := X) (prog := U.P) (fI := fI) (by rw [g.K]; exact T) hz hf pn' rfl) fun σ H Q q => ?_
            obtain ⟨i', hi', hσ⟩ := q.1.1 n rfl
            rw [hi] at hi'; cases hi'
            rcases q.1.2 with ⟨z, _⟩ | ⟨m', a', z, z2, z3⟩
            · rw [hfl] at z; cases z
            · rw [hfl] at z
              cases z
              exact ⟨_, hσ, rfl, rfl, a', .str mm, z2, z3, q.2⟩
        · cases h
      · cases h
    · rename_i m' a1 b1 pp hm
      obtain rfl : m' = m := by omega
      split at h
      · rename_i p q hp hq
        cases h
        cases hv
        have pa := hexp_pe (a := a) (pn := pn) g go hx hxe hz hf hon m' a1 (.bool p) (.bl p) hp rfl
        have pb := hexp_pe (a := a) (pn := pn) g go hx hxe hz hf hon m' b1 (.bool q) (.bl q) hq rfl
        refine PE.imp (pe_and pa (pe_one pb)) fun σ H Q z => ?_
        refine ⟨z.1, p, rfl, ?_⟩
        cases p with
        | true => exact ⟨z.1, z.2⟩
        | false => exact z.2
      · cases h
    · rename_i m' a1 b1 pp hm
      obtain rfl : m' = m := by omega
      split at h
      · rename_i p q hp hq
        split at h
        · rename_i hl
          cases h
          cases hv
          have pa := hexp_pe (a := a) (pn := pn) g go hx hxe hz hf hon m' a1 (.str p) (.str p) hp rfl
          have pb := hexp_pe (a := a) (pn := pn) g go hx hxe hz hf hon m' b1 (.str q) (.str q) hq rfl
          exact PE.imp (pe_op op_add_str pa pb) fun σ H Q z => ⟨z.1, z.1, _, _, rfl, rfl, by rw [← sline_eq]; exact hl, z.2⟩
        · cases h
      · cases h
    · rename_i m' f as ks p a1 b1 pp hm
      obtain rfl : m' = m := by omega
      split at h
      · rename_i t ht
        have pc := hexp_pe (a := a) (pn := pn) g go hx hxe hz hf hon m' _ (.bool t) (.bl t) ht rfl
        cases t with
        | true =>
          rw [if_pos rfl] at h
          have pa := hexp_pe (a := a) (pn := pn) g go hx hxe hz hf hon m' a1 d v h hv
          exact PE.imp (pe_ifExp (pt_val pc) pa PE.none_) fun σ H Q z => ⟨z.1, true, rfl, z.1, z.2⟩
        | false =>
          rw [if_neg Bool.false_ne_true] at h
          have pb := hexp_pe (a := a) (pn := pn) g go hx hxe hz hf hon m' b1 d v h hv
          exact PE.imp (pe_ifExp (pt_val pc) PE.none_ pb) fun σ H Q z => ⟨z.1, false, rfl, z.1, z.2⟩
      · cases h
    · cases h
theorem hexp_sc : ∀ (m : Nat) {on : Option Str} {x : Exc} (e : Expr) (d : Py.D), hexp G Γ on x m e = some d → ∃ v, scV d = some v
  | 0, _, _, e, d, h => by cases h
  | m + 1, on, x, e, d, h => by
    unfold hexp at h
    split at h
    · rename_i h2; cases h2
    · cases h; exact ⟨_, rfl⟩
    · cases h; exact ⟨_, rfl⟩
    · cases h; exact ⟨_, rfl⟩
    · cases h; exact ⟨_, rfl⟩
    · split at h
      · cases hs : G.sub x.cls _ with
        | none => rw [hs] at h; cases h
        | some b => rw [hs] at h; cases h; exact ⟨_, rfl⟩
      · cases h
    · split at h
      · split at h
        · split at h
          · cases h; exact ⟨_, rfl⟩
          · cases h
        · cases h
      · cases h
    · split at h
      · cases h; exact ⟨_, rfl⟩
      · cases h
    · split at h
      · split at h
        · cases h; exact ⟨_, rfl⟩
        · cases h
      · cases h
    · rename_i m' _ _ _ _ _ _ _ hm
      obtain rfl : m' = m := by omega
      split at h
      · split at h
        · exact hexp_sc m' _ _ h
        · exact hexp_sc m' _ _ h
      · cases h
    · cases h
/-- data without a heap -/
def scVs : List Py.D → List V → Prop
  | [], vs => vs = []
  | d :: ds, vs => ∃ v r, vs = v :: r ∧ scV d = some v ∧ scVs ds r
theorem scVs_rp {ow : Ow} {H : Hp} : ∀ {ds : List Py.D} {vs : List V}, scVs ds vs → RpL U ow H ds vs
  | [], _, h => h
  | _ :: _, _, ⟨v, r, h1, h2, h3⟩ => ⟨v, r, h1, scV_rp h2, scVs_rp h3⟩
theorem scVs_len : ∀ {ds : List Py.D} {vs : List V}, scVs ds vs → vs.length = ds.length
  | [], _, h => by cases h; rfl
  | _ :: _, _, ⟨v, r, h1, h2, h3⟩ => by subst h1; exact congrArg Nat.succ (scVs_len h3)
def tHxA (Γ : Cxt) (on : Option Str) (a : Addr) (x : Exc) (od : Option Addr) (vs : List V) : TA := fun σ H Q => ((∀ n, on = some n → ∃ i, Γ.N.idxOf? n = some i ∧ σ[i]? = some (some (.ref a))) ∧ XFl H x.flds od) ∧ Q vs H
theorem hexpL_pa (g : GoodS U k Γ X W) (go : GlOk U k G) {on : Option Str} {x : Exc} {a : Addr} {oe : Obj} {pn : List (Addr × Obj)} {cls : Value} {od : Option Addr} (hx : U.mg x.cls = some cls) (hxe : G.exc x.cls = true) (hz : Zc cls od oe) (hf : ∃ vs, oe.data = .fields vs) (hon : onOk Γ on = true) :
    ∀ (es : List Expr) (ds : List Py.D), hexpL G Γ on x es = some ds → ds.length = es.length ∧ ∃ vs, scVs ds vs ∧ PA (X.suite a ((a, oe) :: pn)) es (tHxA Γ on a x od vs)
  | [], ds, h => by
    cases h
    exact ⟨rfl, [], rfl, PA.imp pa_nil fun σ H Q q => q.2⟩
  | e :: es, ds, h => by
    unfold hexpL at h
    split at h
    · rename_i hns
      split at h
      · rename_i d ds' hd hds
        cases h
        obtain ⟨v, hv⟩ := hexp_sc 5 e d hd
        obtain ⟨hl, vs, hvs, pa⟩ := hexpL_pa g go hx hxe hz hf hon es ds' hds
        exact ⟨congrArg Nat.succ hl, v :: vs, ⟨v, vs, rfl, hv, hvs⟩, PA.imp (pa_cons (hexp_pe g go hx hxe hz hf hon 5 e d v hd hv) pa (starEach_ns hns)) fun σ H Q q => ⟨q.1, q.1, q.2⟩⟩
      · cases h
    · cases h
/-- what a clause's return asks -/
def tsH (U : Wd) (Γ : Cxt) (G : Gs) (on : Option Str) (e : Expr) (a : Addr) (cls : Value) (od : Option Addr) : TS := fun D σ H => ∃ x d, U.mg x.cls = some cls ∧ G.exc x.cls = true ∧ XFl H x.flds od ∧ hret G Γ on x e = some d ∧
  (∀ n, on = some n → ∃ i, Γ.N.idxOf? n = some i ∧ σ[i]? = some (some (.ref a))) ∧ (∀ v, scV d = some v → D.rt v H) ∧ ∀ ds vs p, d = .list ds → scVs ds vs → H p = none → D.rt (.ref p) (upd H p (.lst vs))
theorem tsH_ok (g : GoodS U k Γ X W) (go : GlOk U k G) {on : Option Str} (hon : onOk Γ on = true) {e : Expr} {p : Pos} {a : Addr} {oe : Obj} {cls : Value} {od : Option Addr} {pn : List (Addr × Obj)} (hz : Zc cls od oe) (hf : ∃ vs, oe.data = .fields vs) :
    PSs (X.suite a ((a, oe) :: pn)) [.Return (some e) p] (tsH U Γ G on e a cls od) := ⟨fun pins s σ H D I h => by
  obtain ⟨x, d, hx, hxe, hfl, he, hsl, q1, q2⟩ := h
  unfold hret at he
  split at he
  · rename_i es pl
    obtain ⟨hlen, he⟩ := (show es.length ≤ 5 ∧ (hexpL G Γ on x es).map .list = some d from by
      split at he
      · rename_i h5; exact ⟨h5, he⟩
      · cases he)
    cases hds : hexpL G Γ on x es with
    | none => rw [hds] at he; cases he
    | some ds =>
      rw [hds] at he
      cases he
      obtain ⟨hl, vs, hvs, pa⟩ := hexpL_pa (a := a) (pn := pn) g go hx hxe hz hf hon es ds hds
      refine (pss_one (ps_ret (pe_lst pa))).run pins s σ H D I ⟨⟨hsl, hfl⟩, ?_, fun p np => q2 ds vs p rfl hvs np⟩
      rw [scVs_len hvs, hl, ← sline_eq]
      exact Nat.le_trans hlen (by decide)
  · obtain ⟨v, hv⟩ := hexp_sc 5 e d he
    exact (pss_one (ps_ret (hexp_pe g go hx hxe hz hf hon 5 e d v he hv))).run pins s σ H D I ⟨⟨hsl, hfl⟩, q1 v hv⟩⟩
/-- the clauses, one by one -/
inductive ClRel (U : Wd) (Γ : Cxt) (G : Gs) : List Clause → List Cl → Prop
  | nil : ClRel U Γ G [] []
  | cons {c : Str} {on : Option Str} {e : Expr} {C : Addr} {i : Option Nat} {l : List Clause} {L : List Cl} (hm : U.mg c = some (.ref C)) (hc : G.exc c = true)
      (hi : match on, i with | none, none => True | some n, some i => Γ.N.idxOf? n = some i | _, _ => False) (r : ClRel U Γ G l L) : ClRel U Γ G ((c, on, e) :: l) ((.ref C, i, tsH U Γ G on e) :: L)
theorem mix_ok (g : GoodS U k Γ X W) (go : GlOk U k G) : ∀ (hs : List ExceptHandler) (l : List Clause), tryOf hs = some l → l.all (clOk G Γ) = true → ∃ L, HdMix X hs L ∧ ClRel U Γ G l L
  | [], l, h, _ => by cases h; exact ⟨[], .nil, .nil⟩
  | hd :: hs, l, h, ha => by
    unfold tryOf at h
    split at h
    · rename_i e; cases e
    · rename_i c p1 on e p3 p4 r he
      cases he
      cases hr : tryOf hs with
      | none => rw [hr] at h; cases h
      | some l' =>
        rw [hr] at h
        cases h
        rw [List.all_cons, Bool.and_eq_true] at ha
        obtain ⟨L, hL, rL⟩ := mix_ok g go hs l' hr ha.2
        have hc := ha.1
        unfold clOk at hc
        simp only [Bool.and_eq_true] at hc
        obtain ⟨⟨⟨c1, c2⟩, c3⟩, c4⟩ := hc
        obtain ⟨C, hm, _, _⟩ := go.exc c c3
        obtain ⟨hd, _, _⟩ := okName_d c1
        have nm : Names X c (.ref C) := ⟨kindG_gl g.toGood c2, hd, .inl (by rw [g.mg]; exact hm)⟩
        cases on with
        | none => exact ⟨_, .cons (i := none) nm trivial (fun a oe cls d pn hz hf => tsH_ok g go c4 hz hf) hL, .cons hm c3 trivial rL⟩
        | some n =>
          have c4' := c4
          unfold onOk at c4'
          rw [Bool.and_eq_true] at c4'
          obtain ⟨i, hi⟩ := Option.isSome_iff_exists.mp c4'.2
          exact ⟨_, .cons (i := some i) nm ⟨by rw [g.N]; exact idxOf_get hi, by show X.env.scope.names.lookup n = _; rw [g.sc]; exact isLocal_ok c4'.1⟩ (fun a oe cls d pn hz hf => tsH_ok g go c4 hz hf) hL, .cons hm c3 hi rL⟩
    · cases h
theorem ps_try1 (g : GoodS U k Γ X W) (go : GlOk U k G) {ex : St → List Stmt → M Flow} (hx : SndSs U k Γ ex) {body : List Stmt} {hs : List ExceptHandler} {l : List Clause} {pos : Pos} (ht : tryOf hs = some l) :
    PS X (.Try body hs [] [] pos) (tOfS U W (fun σ => stTry G ex Γ σ body l)) := by
  by_cases hc : l.all (clOk G Γ) = true ∧ l ≠ []
  case neg => exact PS.fails fun σ => by unfold stTry; rw [if_neg hc]
  obtain ⟨L, hL, rL⟩ := mix_ok g go hs l ht hc.1
  have hbody : ∀ (W : WX) (pn : List (Addr × Obj)) (xe : Value → Shared → Prop), Takes (X.tr pn xe) W → PassesOwn (model X.prog X.w) X.A X.env xe → PSs (X.tr pn xe) body (tOfS U W (fun σ => ex σ body)) := fun W' pn xe tk' hp' =>
    hx (X.tr pn xe) W' ⟨⟨g.P, g.w, g.K, g.mg, g.base, g.N, g.sc, g.nd, g.calm, g.room, tk', g.stl, g.stc⟩, g.st, hp', g.stack, g.frame, g.fk⟩ body
  cases hs with
  | nil => cases ht; exact absurd rfl hc.2
  | cons h0 hs =>
    refine PS.imp (ps_try_mix (tb := fun W' => tOfS U W' (fun σ => ex σ body)) (Wout := W) g.stack g.frame (by rw [g.N]; exact g.nd) g.tk hbody hL) fun D σ H h => ?_
    obtain ⟨H0, ow0, Hk, owk, ow, σd, s, S, kk, w⟩ := h
    have w : Wp (stTry G ex Γ σd body l) s _ _ := w
    unfold stTry at w
    rw [if_pos hc] at w
    refine ⟨H0, ow0, Hk, owk, ow, σd, s, S, kk, (Wp.of_bind (m := ex σd body) (k := catchF G Γ l) w).mono (fun fl s2 q2 => ?_) fun _ _ z => z⟩
    cases fl with
    | nx σ' => exact fun ow σ H S k => q2.of_pure ow σ H S k
    | ct σ' => exact fun ow σ H S k => q2.of_pure ow σ H S k
    | brk σ' => exact fun ow σ H S k => q2.of_pure ow σ H S k
    | ret d o => exact fun ow σ H σd v S k1 k2 => q2.of_pure ow σ H σd v S k1 k2
    | rz x σ' =>
      intro ow2 σ2 H2 cls od S2 r
      obtain ⟨⟨hxe, hin⟩, q2⟩ := Wp.of_guard q2
      obtain ⟨r1, r2⟩ := r
      have go' : ∀ {l' : List Clause} {L' : List Cl}, ClRel U Γ G l' L' → (l'.all fun p => onIn Γ p.2.1 σ'.length) = true → Wp (clauses G Γ x σ' l') s2 (PostF U H0 ow0 Hk owk W D) (fun _ _ => False) → wMix X.K W D L' cls od σ2 H2 := by
        intro l' L' rl
        induction rl with
        | nil => exact fun _ q => q.of_pure _ _ _ _ _ S2 ⟨r1, r2⟩
        | @cons c on e C i l1 L1 hm hc hi rr ih =>
          intro hin q
          rw [List.all_cons, Bool.and_eq_true] at hin
          obtain ⟨C', hm', _, hex⟩ := go.exc c hc
          rw [hm] at hm'
          cases hm'
          have q : Wp (if x.cls = c then (match hret G Γ on x e with
            | some d => pure (.ret d false)
            | none => fail) else clauses G Γ x σ' l1) s2 _ _ := q
          refine ⟨decide (x.cls = c), by rw [g.K]; exact hex x.cls hxe _ r1, fun z a na => ?_, fun z => ?_⟩
          · rw [if_pos (of_decide_eq_true z)] at q
            cases hv : hret G Γ on x e with
            | none => rw [hv] at q; exact q.of_fail.elim
            | some d =>
              rw [hv] at q
              have rt : ∀ {D' : Ends}, (∀ v H', D.rt v H' → D'.rt v H') → (∀ v, scV d = some v → D'.rt v H2) ∧ ∀ ds vs p, d = .list ds → scVs ds vs → H2 p = none → D'.rt (.ref p) (upd H2 p (.lst vs)) := fun hD =>
                ⟨fun v hsv => hD _ _ (q.of_pure _ _ _ _ _ S2 (fun _ => scV_rp hsv) fun z => nomatch z), fun ds vs p hd hvs np => hD _ _ (by
                  subst hd
                  exact q.of_pure _ _ _ _ _ (S2.ext (Ext.new np) (S2.cap.new np)) (fun _ => Rp.newL (scVs_rp hvs) np (S2.nocap np) (S2.noow np)) fun z => nomatch z)⟩
              cases on with
              | none =>
                cases i with
                | some i => exact hi.elim
                | none => exact ⟨x, d, r1, hxe, r2, hv, fun n z => (nomatch z), rt (D' := D) fun _ _ z => z⟩
              | some n =>
                cases i with
                | none => exact hi.elim
                | some i =>
                  refine ⟨x, d, r1, hxe, r2, hv, fun n' z => ?_, rt (D' := dMix (some i) D) fun _ _ z => z⟩
                  cases z
                  have hi : Γ.N.idxOf? n = some i := hi
                  have hl : i < σ2.length := by
                    have h1 := hin.1
                    unfold onIn at h1
                    dsimp only at h1
                    rw [hi] at h1
                    rw [← S2.len]
                    exact of_decide_eq_true h1
                  exact ⟨i, hi, List.getElem?_set_self hl⟩
          · rw [if_neg (of_decide_eq_false z)] at q
            exact ih hin.2 q
      exact go' rL hin q2
end
end Py

set_option Elab.async false
set_option linter.all false
set_option maxRecDepth 100000
set_option maxHeartbeats 1000000
namespace Py
open PySem PySem.Spec PyProof.Rows L2
section
variable {U : Wd} {k : Nat} {Γ : Cxt} {X : Cx} {W : WX} {G : Gs} {ow ow0 : Ow} {H H0 H1 : Hp} {s s1 : DS} {σ : L2.St} {σd : St} {D : Ends}
theorem evE_slice {n : Nat} {lo hi st : Option Expr} {p : Pos} {σ : St} : evE G n Γ σ (.Slice lo hi st p) = fail := by cases n <;> rfl
theorem snd_asg (g : GoodS U k Γ X W) (go : GlOk U k G) (gf : FnsOk U k G) {n w : Nat} {ex : St → List Stmt → M Flow} (ts : List Expr) (e : Expr) (pos : Pos) :
    PS X (.Assign ts e pos) (tOfS U W (fun σ => exec1 G (evE G n) w ex Γ σ (.Assign ts e pos))) := by
  have hA := fun e => snd_E go gf n Γ X W g.toGood e
  have hE : ∀ e, PE X e (tOf U W (fun σ => evE G n Γ σ e) fun _ => false) := fun e => PE.weak ((hA e).1 0) (fun d z => by cases z)
  match ts with
  | [] => exact PS.fails fun _ => rfl
  | t :: t2 :: tr =>
    cases t with
    | Subscript o i q => exact PS.fails fun σ => by cases o <;> rfl
    | _ => exact PS.fails fun _ => rfl
  | [t] =>
    cases t with
    | Name x p =>
      have gen : (∀ σ, exec1 G (evE G n) w ex Γ σ (.Assign [.Name x p] e pos) = stAsg G (evE G n) Γ σ x e) → PS X (.Assign [.Name x p] e pos) (tOfS U W (fun σ => exec1 G (evE G n) w ex Γ σ (.Assign [.Name x p] e pos))) := fun h => PS.to h (ps_asgA g go gf)
      cases e with
      | Call fe args kws r =>
        cases fe with
        | Attribute o m q =>
          cases o with
          | Name l p2 =>
            cases kws with
            | nil =>
              by_cases hm : m = ("pop" : Str)
              · subst hm
                exact PS.to (fun σ => rfl) (ps_pop1 g hE)
              · exact gen fun σ => if_neg hm
            | cons _ _ => exact gen fun _ => rfl
          | _ => exact gen fun _ => rfl
        | _ => exact gen fun _ => rfl
      | _ => exact gen fun _ => rfl
    | Tuple es kt p =>
      cases e with
      | Tuple vs k2 p2 =>
        by_cases hoff : offPar Γ es vs = true
        · exact PS.to (fun σ => by show (if _ then _ else _) = _; rw [if_pos hoff]) (ps_tup1 (G := G) (ev := evE G n) g (hE _) rfl (sw_off g hoff) rfl)
        · exact PS.to (fun σ => by show (if _ then _ else _) = _; rw [if_neg hoff]) (ps_par1 g hE fun q hq => by cases n with
        | zero => exact .inr fun _ => rfl
        | succ n =>
          rcases isNil_eq hq with ⟨p, rfl⟩ | ⟨p, rfl⟩
          · exact .inl fun _ => rfl
          · refine .inl fun σ => ?_
            show (if ([] : List (Option Expr)).length ≤ 15 ∧ ([] : List (Option Expr)).all (·.isSome) = true ∧ ([] : List (Option Expr)).length = ([] : List Expr).length then (do let ps ← evPairs (evE G n Γ σ) [] []; if dOk ps = true ∧ (ps.map fun p => keyD p.1).Nodup then pure (.dict ps) else fail) else fail : M Py.D) = _
            rw [if_pos ⟨by decide, rfl, rfl⟩]
            show (if dOk [] = true ∧ (([] : List (Py.D × Py.D)).map fun p => keyD p.1).Nodup then (pure (.dict []) : M Py.D) else fail) = _
            rw [if_pos ⟨rfl, List.nodup_nil⟩]
            rfl)
      | _ => exact PS.to (fun _ => rfl) (ps_tup1 (G := G) (ev := evE G n) g (hE _) rfl rfl rfl)
    | Subscript o i p =>
      cases o with
      | Name l p2 =>
        cases i with
        | Slice lo hi st p3 =>
          refine PS.fails fun σ => ?_
          show stSub _ _ _ _ _ _ _ = fail
          unfold stSub
          dsimp only
          rw [if_neg (fun z => by cases z.2)]
        | _ => exact PS.to (fun _ => rfl) (ps_sub1 (G := G) (ev := evE G n) g (hE e) (hE _) (by cases e <;> rfl) (by cases e <;> rfl) rfl fun _ => rfl)
      | _ => exact PS.fails fun _ => rfl
    | _ => exact PS.fails fun _ => rfl
theorem stMet_app {ev : Cxt → St → Expr → M Py.D} {σ : St} {l : Str} {q r : Pos} {args : List Expr} : stMet G ev Γ σ l "append" q r args = (match args with
                | [e] => stApp G ev Γ σ l q r e
                | _ => fail) := by
  unfold stMet
  exact if_pos rfl
theorem stMet_pop {ev : Cxt → St → Expr → M Py.D} {σ : St} {l : Str} {q r : Pos} {args : List Expr} : stMet G ev Γ σ l "pop" q r args = (match args with
                | [] => stPop0 Γ σ l q r
                | _ => fail) := by
  unfold stMet
  exact (if_neg (by decide)).trans (if_pos rfl)
theorem stMet_ext {ev : Cxt → St → Expr → M Py.D} {σ : St} {l : Str} {q r : Pos} {args : List Expr} : stMet G ev Γ σ l "extend" q r args = (match args with
                | [e] => stExt G ev Γ σ l q r e
                | _ => fail) := by
  unfold stMet
  exact (if_neg (by decide)).trans ((if_neg (by decide)).trans (if_pos rfl))
theorem stMet_no {ev : Cxt → St → Expr → M Py.D} {σ : St} {l m : Str} {q r : Pos} {args : List Expr} (h1 : ¬ m = ("append" : Str)) (h2 : ¬ m = ("pop" : Str)) (h3 : ¬ m = ("extend" : Str)) : stMet G ev Γ σ l m q r args = fail := by
  unfold stMet
  exact (if_neg h1).trans ((if_neg h2).trans (if_neg h3))
theorem raiseOf_ok {e : Expr} {c : Str × Str} (h : raiseOf e = some c) : ∃ p1 j p2 p3, e = .Call (.Name c.1 p1) [.Constant (.str c.2) j p2] [] p3 := by
  unfold raiseOf at h
  split at h
  · cases h; exact ⟨_, _, _, _, rfl⟩
  · cases h
theorem snd_1 (g : GoodS U k Γ X W) (go : GlOk U k G) (gf : FnsOk U k G) {n w : Nat} {ex : St → List Stmt → M Flow} (hx : SndSs U k Γ ex) (st : Stmt) :
    PS X st (tOfS U W (fun σ => exec1 G (evE G n) w ex Γ σ st)) := by
  have hA := fun e => snd_E go gf n Γ X W g.toGood e
  have hE : ∀ e, PE X e (tOf U W (fun σ => evE G n Γ σ e) fun _ => false) := fun e => PE.weak ((hA e).1 0) (fun d z => by cases z)
  cases st with
  | Pass p => exact PS.imp ps_pass fun D σ H ⟨H0, ow0, Hk, owk, ow, σd, s, S, kk, w⟩ => (show Wp (pure (Flow.nx σd)) s _ _ from w).of_pure _ _ _ S kk
  | Break p => exact PS.imp ps_break fun D σ H ⟨H0, ow0, Hk, owk, ow, σd, s, S, kk, w⟩ => (show Wp (pure (Flow.brk σd)) s _ _ from w).of_pure _ _ _ S kk
  | Continue p => exact PS.imp ps_continue fun D σ H ⟨H0, ow0, Hk, owk, ow, σd, s, S, kk, w⟩ => (show Wp (pure (Flow.ct σd)) s _ _ from w).of_pure _ _ _ S kk
  | Return o p =>
    cases o with
    | none => exact PS.imp ps_retN fun D σ H ⟨H0, ow0, Hk, owk, ow, σd, s, S, kk, w⟩ => (show Wp (pure (Flow.ret .none false)) s _ _ from w).of_pure _ _ _ _ _ S (fun _ => Rp.none) fun z => nomatch z
    | some e =>
      cases e with
      | Name x p2 => exact PS.to (fun _ => rfl) (ps_retN1 g (hE _))
      | _ => exact PS.to (fun _ => rfl) (ps_ret1 (G := G) (ev := evE G n) g ((hA _).1 40))
  | If c a b p => exact PS.to (fun _ => rfl) (ps_if1 g hx (hA c).2)
  | While c body orelse p =>
    cases orelse with
    | nil => exact PS.to (fun _ => rfl) (ps_while1 (w0 := fun σ => w + msr σ) g hx (hA c).2)
    | cons _ _ => exact PS.fails fun _ => rfl
  | For tg it body orelse p =>
    cases orelse with
    | nil => exact PS.to (fun _ => rfl) (ps_for1 g go hx hE)
    | cons _ _ => exact PS.fails fun _ => rfl
  | Assign ts e p => exact snd_asg g go gf ts e p
  | AugAssign t op e p =>
    cases t with
    | Name x p2 => exact PS.to (fun _ => rfl) (ps_aug1 g (hE e))
    | Subscript o i q =>
      cases o with
      | Name l p2 =>
        cases i with
        | Slice lo hi st p3 =>
          refine PS.fails fun σ => ?_
          show stAugS _ _ _ _ _ _ _ = fail
          unfold stAugS
          rw [if_neg (fun z => by cases z.2)]
        | _ => exact PS.to (fun _ => rfl) (ps_augS2 g (hE e) (hE _) (by intros; rfl))
      | _ => exact PS.fails fun _ => rfl
    | _ => exact PS.fails fun _ => rfl
  | Expr e p =>
    have gen : (∀ σ, exec1 G (evE G n) w ex Γ σ (.Expr e p) = stExp G (evE G n) Γ σ e) → PS X (.Expr e p) (tOfS U W (fun σ => exec1 G (evE G n) w ex Γ σ (.Expr e p))) := fun h => PS.to h (ps_exp1 g (hE e))
    cases e with
    | Call fe args kws r =>
      cases fe with
      | Attribute o m q =>
        cases o with
        | Name l p2 =>
          cases kws with
          | nil =>
            clear gen
            have h1 : ∀ args σ, exec1 G (evE G n) w ex Γ σ (.Expr (.Call (.Attribute (.Name l p2) m q) args [] r) p) = stMet G (evE G n) Γ σ l m q r args := fun _ _ => rfl
            by_cases hm : m = ("append" : Str)
            · subst hm
              match args with
              | [e] => exact PS.to (fun σ => (h1 _ σ).trans stMet_app) (ps_app1 g (hE e))
              | [] => exact PS.fails fun σ => (h1 _ σ).trans stMet_app
              | _ :: _ :: _ => exact PS.fails fun σ => (h1 _ σ).trans stMet_app
            · by_cases hm2 : m = ("pop" : Str)
              · subst hm2
                match args with
                | [] => exact PS.to (fun σ => (h1 _ σ).trans stMet_pop) (ps_pop0 g)
                | _ :: _ => exact PS.fails fun σ => (h1 _ σ).trans stMet_pop
              · by_cases hm3 : m = ("extend" : Str)
                · subst hm3
                  match args with
                  | [e] => exact PS.to (fun σ => (h1 _ σ).trans stMet_ext) (ps_ext1 g (hE e))
                  | [] => exact PS.fails fun σ => (h1 _ σ).trans stMet_ext
                  | _ :: _ :: _ => exact PS.fails fun σ => (h1 _ σ).trans stMet_ext
                · exact PS.fails fun σ => (h1 _ σ).trans (stMet_no hm hm2 hm3)
          | cons _ _ => exact gen fun _ => rfl
        | _ => exact gen fun _ => rfl
      | _ => exact gen fun _ => rfl
    | _ => exact gen fun _ => rfl
  | Raise o c p =>
    cases o with
    | none => exact PS.fails fun _ => rfl
    | some e =>
      cases c with
      | some c => exact PS.fails fun σ => rfl
      | none =>
        have h1 : ∀ σ, exec1 G (evE G n) w ex Γ σ (.Raise (some e) none p) = (match raiseOf e with
          | some (c, m) => stRaise G Γ σ c m
          | none => fail) := fun _ => rfl
        cases hr : raiseOf e with
        | none => exact PS.fails fun σ => by rw [h1, hr]
        | some c =>
          obtain ⟨p1, j, p2, p3, rfl⟩ := raiseOf_ok hr
          exact PS.to (fun σ => by rw [h1, hr]) (ps_raise1 g go)
  | Try body hs orelse fin p =>
    cases orelse with
    | cons _ _ => exact PS.fails fun _ => rfl
    | nil =>
      cases fin with
      | cons _ _ => exact PS.fails fun _ => rfl
      | nil =>
        have h1 : ∀ σ, exec1 G (evE G n) w ex Γ σ (.Try body hs [] [] p) = (match tryOf hs with
          | some l => stTry G ex Γ σ body l
          | none => fail) := fun _ => rfl
        cases hr : tryOf hs with
        | none => exact PS.fails fun σ => by rw [h1, hr]
        | some cv =>
          exact PS.to (fun σ => by rw [h1, hr]) (ps_try1 g go hx hr)
  | _ => exact PS.fails fun _ => rfl
/-- suites -/
theorem snd_x (go : GlOk U k G) (gf : FnsOk U k G) {n w : Nat} : ∀ m, SndSs U k Γ (exec G (evE G n) w Γ m)
  | 0 => fun X W g sts => ⟨fun pins s' σ H D I h => by
    obtain ⟨H0, ow0, Hk, owk, ow, σd, s, S, kk, w⟩ := h
    exact (show Wp fail s _ _ from w).of_fail.elim⟩
  | m + 1 => fun X W g sts => by
    cases sts with
    | nil => exact PSs.imp pss_nil fun D σ H ⟨H0, ow0, Hk, owk, ow, σd, s, S, kk, w⟩ => (show Wp (pure (Flow.nx σd)) s _ _ from w).of_pure _ _ _ S kk
    | cons st rest =>
      refine PSs.imp (pss_cons (snd_1 (n := n) (w := w) g go gf (snd_x (n := n) (w := w) go gf m) st) (snd_x (n := n) (w := w) go gf m X W g rest)) fun D σ H ⟨H0, ow0, Hk, owk, ow, σd, s, S, kk, w'⟩ => ?_
      have w' : Wp (thenF (exec1 G (evE G n) w (exec G (evE G n) w Γ m) Γ σd st) fun σ' => exec G (evE G n) w Γ m σ' rest) s _ _ := w'
      unfold thenF at w'
      refine ⟨H0, ow0, Hk, owk, ow, σd, s, S, kk, w'.of_bind.mono (fun fl s2 q2 => ?_) fun _ _ z => z⟩
      cases fl with
      | nx σ' => exact fun ow σ H S k => ⟨H0, ow0, Hk, owk, ow, σ', s2, S, k, q2⟩
      | ct σ' => exact fun ow σ H S k => q2.of_pure ow σ H S k
      | brk σ' => exact fun ow σ H S k => q2.of_pure ow σ H S k
      | ret d o => exact fun ow σ H σd v S k1 k2 => q2.of_pure ow σ H σd v S k1 k2
      | rz x σ' => exact fun ow σ H cls od S r => q2.of_pure ow σ H cls od S r
end
end Py

set_option Elab.async false
set_option linter.all false
set_option maxRecDepth 100000
set_option maxHeartbeats 1000000
namespace Py
open PySem PySem.Spec PyProof.Rows L2
section
variable {U : Wd} {k : Nat} {Γ : Cxt} {X : Cx} {W : WX} {G : Gs} {ow ow0 : Ow} {H H0 H1 : Hp} {s s1 : DS} {σ : L2.St} {σd : St} {D : Ends}
/-- the caller's lists are nobody's here -/
def dem (ow : Ow) : Ow := fun a => match ow a with
  | none => none
  | some _ => some 0
theorem dem_none {a : Addr} : dem ow a = none ↔ ow a = none := by
  unfold dem
  cases ow a <;> simp
theorem dem_keep : Keep U ow (dem ow) H H := fun a u _ ho e => ⟨e, dem_none.mpr ho⟩
theorem dem_keep' : Keep U (dem ow) ow H H := fun a u _ ho e => ⟨e, dem_none.mp ho⟩
theorem start_get {N : List Str} {ds : List Py.D} {i : Nat} {d : Py.D} {o : Bool} (h : (Py.start N ds)[i]? = some (some (d, o))) : o = false ∧ ds[i]? = some d := by
  unfold Py.start at h
  by_cases hi : i < ds.length
  · rw [List.getElem?_append_left (by simpa using hi), List.getElem?_map, List.getElem?_eq_getElem hi] at h
    cases h
    exact ⟨rfl, List.getElem?_eq_getElem hi⟩
  · rw [List.getElem?_append_right (by simpa using hi), List.getElem?_replicate] at h
    split at h <;> cases h
theorem SR.start {N : List Str} {ds : List Py.D} {vs : List V} (hk : Hk U ow H s) (hc : ow U.cell = none) (r : RpL U ow H ds vs) : SR U H (dem ow) (dem ow) (L2.start N vs) H (Py.start N ds) s := by
  refine ⟨fun a h => hk.1 a fun z => h (dem_none.mpr z), dem_none.mpr hk.capo, dem_none.mpr hc, fun a i h => ?_, fun _ _ _ => rfl, Ext.refl, fun i d o h => ?_, hk.cap, ?_⟩
  · unfold dem at h
    cases e : ow a with
    | none => rw [e] at h; cases h
    | some j => rw [e] at h; cases h
  · obtain ⟨ho, hd⟩ := start_get h
    obtain ⟨v, hv, rv⟩ := r.get hd
    have hi : i < vs.length := by
      by_cases z : i < vs.length
      · exact z
      · rw [List.getElem?_eq_none (by omega)] at hv; cases hv
    refine ⟨v, ?_, fun _ => Rp.mono dem_keep _ _ rv, fun z => by rw [ho] at z; cases z⟩
    unfold L2.start
    rw [List.getElem?_append_left (by simpa using hi), List.getElem?_map, hv]
    rfl
  · unfold Py.start L2.start
    simp [r.length]
/-- what is made of the module's def -/
structure FdOk (U : Wd) (x : Str) (F : Fd) : Prop where
  ex : ∃ nm qual st f fd, L2.Fun U.K nm qual st f fd ∧ FnScope F.N F.ps (defScope st) ∧ F.sc = defScope st ∧ F.body = defBody st ∧ U.mg x = some (.ref f) ∧ Binds U.K fd F.ps []
structure PrOk (U : Wd) (k : Nat) (x : Str) (p : List Py.D → M Py.D) : Prop where
  ex : ∃ f fd ps, U.mg x = some (.ref f) ∧ PySem.W.keepIn U.K (.ref f) = true ∧ Binds U.K fd ps [] ∧ FnOk U.P U.w U.K U.mg U.base (L2.CX U.P U.w) k f fd ps (spF U (fun _ => p) ⟨false, true⟩ x ps.length) ∧ ∀ ds s, ds.length ≠ ps.length → p ds s = .fail
theorem fn_sound {P : Pg} {w j : Nat} {x : Str} {F : Fd} (go : GlOk U k (P.gl (P.call w j))) (gf : FnsOk U k (P.gl (P.call w j))) (hp : P.prim x = none) (hF : P.fd x = some F) (ok : FdOk U x F) :
    ∃ f fd ps, U.mg x = some (.ref f) ∧ PySem.W.keepIn U.K (.ref f) = true ∧ Binds U.K fd ps [] ∧ FnOk U.P U.w U.K U.mg U.base (L2.CX U.P U.w) (k + 1) f fd ps (spF U (P.call w (j + 1)) F.flg x ps.length) ∧ ∀ ds s, ds.length ≠ ps.length → P.call w (j + 1) x ds s = .fail := by
  obtain ⟨nm, qual, st, f, fd, Fn, S, hsc, hbd, hm, hb⟩ := ok.ex
  have hcall : ∀ ds, P.call w (j + 1) x ds = runFd (P.gl (P.call w j)) w F ds := fun ds => by
    unfold Pg.call
    rw [hp, hF]
  refine ⟨f, fd, F.ps, hm, Fn.kp, hb, Fn.okX S (fun vs H Q E h => h.1) fun cdv A outer s0 H vs Q E hr hsp => ?_, fun ds s hl => ?_⟩
  · obtain ⟨hl, ow, s, ds, hk, hcl, r, w'⟩ := hsp
    rw [hcall] at w'
    unfold runFd at w'
    obtain ⟨_, w'⟩ := w'.of_guard
    have w' := quiet_wp w'.of_bind
    have g : GoodS U k ⟨F.N, F.sc, F.sc⟩ (cxOf (L2.CX U.P U.w) U.P U.w U.K U.mg U.base F.N qual (defScope st) f cdv A outer s0 H E) (fun cls d _ H => E cls d H) :=
      ⟨⟨rfl, rfl, rfl, rfl, rfl, rfl, hsc.symm, S.nd, rfl, hr, takes_of rfl rfl rfl rfl, fun _ h => h, fun _ h => ⟨h, rfl⟩⟩, rfl, passes_of rfl, rfl, rfl, by show F.sc.kind = _; rw [hsc]; exact S.kind⟩
    rw [← hbd]
    refine ⟨_, snd_x go gf 60 _ _ g F.body, H, dem ow, H, dem ow, dem ow, _, s, SR.start hk hcl r, Keep.refl, w'.mono (fun fl s2 q2 => ?_) fun _ _ z => z⟩
    have back : ∀ {ow2 : Ow} {H2 : Hp}, (∀ a u, H a = some u → ow2 a = dem ow a) → ∀ b, ow2 b = none → ow b = none := fun ag b hb => by
      cases e : H b with
      | none =>
        cases e2 : ow b with
        | none => rfl
        | some i =>
          obtain ⟨u, hu, _⟩ := hk.1 b (by rw [e2]; intro z; cases z)
          rw [e] at hu; cases hu
      | some u => exact dem_none.mp ((ag b u e).symm.trans hb)
    cases fl with
    | nx σ' =>
      intro ow2 σ2 H2 S2 _
      unfold endF at q2
      rcases q2.of_ite with ⟨_, q2⟩ | ⟨_, q2⟩
      · exact q2.of_fail.elim
      · exact q2.of_pure _ H2 S2.base S2.cap Rp.none fun z => by simp [isL] at z
    | brk σ' => exact q2.of_fail.elim
    | ct σ' => exact q2.of_fail.elim
    | ret d o =>
      intro ow2 σ2 H2 σ2d v S2 r1 r2
      unfold endF at q2
      have q3 : ¬ ((F.flg.fr = true ∧ o = false) ∨ (F.flg.fl = true ∧ flat d = false)) ∧ PostE U ow (fun d => F.flg.fr && isL d) H Q d s2 := by
        rcases q2.of_ite with ⟨_, q2⟩ | ⟨hno, q2⟩
        · exact q2.of_fail.elim
        · exact ⟨hno, q2.of_pure⟩
      clear q2
      obtain ⟨hno, q2⟩ := q3
      have bk := back (ow2 := ow2) (H2 := H2) S2.agr
      cases o with
      | false =>
        exact q2 v H2 S2.base S2.cap (Rp.mono (fun b u _ hb e => ⟨e, bk b hb⟩) _ _ (r1 rfl)) fun z => by
          rw [Bool.and_eq_true] at z
          exact absurd (.inl ⟨z.1, rfl⟩) hno
      | true =>
        obtain ⟨a, u0, ev, hn, ha, hca, rr⟩ := r2 rfl
        have hoa : ow a = none := by
          cases e2 : ow a with
          | none => rfl
          | some i =>
            obtain ⟨u, hu, _⟩ := hk.1 a (by rw [e2]; intro z; cases z)
            rw [hn] at hu; cases hu
        have bk2 : ∀ b, (if b = a then some 0 else ow2 b) = none → b ≠ a ∧ ow b = none := fun b hb => by
          by_cases z : b = a
          · rw [if_pos z] at hb; cases hb
          · rw [if_neg z] at hb; exact ⟨z, bk b hb⟩
        refine q2 v H2 S2.base S2.cap ?_ fun _ => ⟨a, u0, ev, hn, ha, hca, fun i => Sh.mono (fun b u _ hb e => ⟨e, ?_⟩) rr⟩
        · rw [ev]
          rcases rr with ⟨ds, xs, ed, eu, rr⟩ | ⟨ds, xs, ed, eu, rr⟩
          · subst ed eu
            unfold Rp
            exact ⟨a, xs, rfl, ⟨ha, hoa, hca⟩, RpL.mono (fun b u _ hb e => ⟨e, (bk2 b hb).2⟩) _ _ rr⟩
          · subst ed eu
            unfold Rp
            exact .inr ⟨a, xs, rfl, .inl ⟨ha, hoa, hca⟩, RpD.mono (fun b u _ hb e => ⟨e, (bk2 b hb).2⟩) _ _ rr⟩
        · show (if b = a then some i else ow b) = none
          rw [if_neg (bk2 b hb).1]
          exact (bk2 b hb).2
    | rz x σ' =>
      intro ow2 σ2 H2 cls od S2 r
      exact (show PostXE U E H x s2 from q2) cls od H2 S2.base S2.cap r
  · rw [hcall]
    unfold runFd
    rw [if_neg hl]
    rfl
/-- the program -/
structure PgOk (U : Wd) (P : Pg) (k : Nat) : Prop where
  gl : ∀ j call, GlOk U j (P.gl call)
  fd : ∀ x F, P.prim x = none → P.fd x = some F → FdOk U x F
  pr : ∀ x p, P.prim x = some p → PrOk U k x p
theorem spF_fail {call : Str → List Py.D → M Py.D} {fg : Flg} {x : Str} {n : Nat} (h : ∀ ds, call x ds = fail) {vs : List V} {H : Hp} {Q : VK} {E : XK} (q : spF U call fg x n vs H Q E) : False := by
  obtain ⟨_, _, _, _, _, _, _, w⟩ := q
  rw [h] at w
  exact w.of_fail
theorem pg_sound {P : Pg} {w k0 : Nat} (ok : PgOk U P k0) : ∀ j, FnsOk U (k0 + j) (P.gl (P.call w j))
  | 0 => ⟨fun x fg hx => by
    have hf : ∀ ds, P.call w 0 x ds = fail := fun _ => rfl
    have hx : P.flg x = some fg := hx
    unfold Pg.flg at hx
    cases hp : P.prim x with
    | some p =>
      obtain ⟨f, fd, ps, h1, h2, h3, _, _⟩ := (ok.pr x p hp).ex
      exact ⟨f, fd, ps, h1, h2, h3, ⟨fun vs H Q E h => (spF_fail hf h).elim, fun A outer s H args us vs Q E _ _ _ _ h => (spF_fail hf h).elim⟩, fun _ _ _ => rfl⟩
    | none =>
      rw [hp] at hx
      cases hF : P.fd x with
      | none => rw [hF] at hx; cases hx
      | some F =>
        obtain ⟨nm, qual, st, f, fd, Fn, S, hsc, hbd, hm, hb⟩ := (ok.fd x F hp hF).ex
        exact ⟨f, fd, F.ps, hm, Fn.kp, hb, ⟨fun vs H Q E h => (spF_fail hf h).elim, fun A outer s H args us vs Q E _ _ _ _ h => (spF_fail hf h).elim⟩, fun _ _ _ => rfl⟩⟩
  | j + 1 => ⟨fun x fg hx => by
    have hx : P.flg x = some fg := hx
    unfold Pg.flg at hx
    cases hp : P.prim x with
    | some p =>
      rw [hp] at hx
      cases hx
      obtain ⟨f, fd, ps, h1, h2, h3, h4, h5⟩ := (ok.pr x p hp).ex
      have hc : ∀ ds, P.call w (j + 1) x ds = p ds := fun ds => by unfold Pg.call; rw [hp]
      refine ⟨f, fd, ps, h1, h2, h3, (h4.mono (by omega)).imp fun vs H Q E h => ?_, fun ds s hl => by show P.call w (j + 1) x ds s = _; rw [hc]; exact h5 ds s hl⟩
      obtain ⟨a, ow, s, ds, b, c, d, e⟩ := h
      have e : Wp (P.call w (j + 1) x ds) s _ _ := e
      rw [hc] at e
      exact ⟨a, ow, s, ds, b, c, d, e⟩
    | none =>
      rw [hp] at hx
      cases hF : P.fd x with
      | none => rw [hF] at hx; cases hx
      | some F =>
        rw [hF] at hx
        cases hx
        exact fn_sound (ok.gl _ _) (pg_sound ok j) hp hF (ok.fd x F hp hF)⟩
end
end Py

set_option Elab.async false
set_option linter.all false
set_option maxRecDepth 100000
set_option maxHeartbeats 1000000
namespace Py
open PySem PySem.Spec PyProof.Rows L2
/-- the token for the drawing row -/
abbrev tok : Py.D := .dict [(.none, .none)]
def takeP : List Py.D → M Py.D
  | [.dict [(.none, .none)], .int n] => take n
  | _ => fail
def absZ (n : Int) : Int := if n < 0 then -n else n
/-- what _law_draw makes -/
def spDraw (K : PySem.W.Frag) : Sp := fun vs H Q _ => ∃ (a : Addr) (ns : List Int), vs = [.ref a] ∧ SqL K H a (ns.map V.int) ∧ ns.length ≤ 63 ∧
  ∀ (p c : Addr) (H' : Hp) (sd : Int), p ≠ c → (∀ b u, H b = some u → H' b = some u) → 0 ≤ sd → sd < 2147483647 → H' p = some (.lst [.ref c, .int (-1), .int 0, .int sd]) → H' c = some (.lst ((ns.map absZ).map V.int)) → Q (.ref p) H'
/-- what the law promises -/
def spLaw (K : PySem.W.Frag) : Sp := fun vs H Q _ => ∃ (a : Addr) (ns : List Int), vs = [.ref a] ∧ SqL K H a (ns.map V.int) ∧ ns.length ≤ 63 ∧ ∀ H', Q (.bl true) H'
def startL (n : Nat) : St := (List.replicate n none).set 1 (some (tok, false))
/-- the body behind the drawing row runs to True -/
def LawRun (P : Pg) (j w : Nat) (N : List Str) (sc : Scope) (rest : List Stmt) : Prop := ∀ (ns : List Int) (sd : Int), ns.length ≤ 63 → 0 ≤ sd → sd < 2147483647 →
  Wp (exec (P.gl (P.call w j)) (evE (P.gl (P.call w j)) 40) w ⟨N, sc, sc⟩ 60 (startL N.length) rest) ⟨ns.map absZ, -1, 0, sd⟩ (fun fl _ => ∃ o, fl = .ret (.bool true) o) fun _ _ => False
theorem law_sound {P0 : Program} {w0 : World} {K : PySem.W.Frag} {mg : Str → Option Value} {base : Heap} {P : Pg} {k0 j w : Nat} {st : Stmt} {f fdr : Addr} {fd fdd : FuncData} {N : List Str} {rest : List Stmt} {p1 p2 p3 p4 p5 : Pos}
    (ok : ∀ cap cell, PgOk ⟨P0, w0, K, mg, base, cap, cell⟩ P k0) (F : L2.Fun K "law" "law" st f fd) (S : FnScope N ["script"] (defScope st))
    (hb : defBody st = .Assign [.Name "draw" p1] (.Call (.Name "_law_draw" p2) [.Name "script" p3] [] p4) p5 :: rest) (h0 : N[0]? = some ("script" : Str)) (h1 : N[1]? = some ("draw" : Str)) (v0 : (defScope st).names.lookup ("script" : Str) = some .local) (v1 : (defScope st).names.lookup ("draw" : Str) = some .local ∨ (defScope st).names.lookup ("draw" : Str) = some .cell)
    (gd : (defScope st).names.lookup ("_law_draw" : Str) = some .globalImplicit)
    (D0 : FnOk P0 w0 K mg base (L2.CX P0 w0) 1 fdr fdd ["script"] (spDraw K)) (hm : mg "_law_draw" = some (.ref fdr)) (hk : PySem.W.keepIn K (.ref fdr) = true) (hbd : Binds K fdd ["script"] []) (hk0 : 1 ≤ k0)
    (run : LawRun P j w N (defScope st) rest) : FnOk P0 w0 K mg base (L2.CX P0 w0) (k0 + j + 1) f fd ["script"] (spLaw K) := by
  refine F.okX S (fun vs H Q E h => by obtain ⟨a, ns, rfl, _⟩ := h; rfl) fun cdv A outer s0 H vs Q E hr h => ?_
  obtain ⟨a, ns, rfl, hS, h63, q⟩ := h
  rw [hb]
  have rs : PSs (cxOf (L2.CX P0 w0) P0 w0 K mg base N "law" (defScope st) f cdv A outer s0 H E) rest (fun D σ H' => ∃ cap cell, tOfS ⟨P0, w0, K, mg, base, cap, cell⟩ (fun cls d _ H => E cls d H) (fun σ => exec (P.gl (P.call w j)) (evE (P.gl (P.call w j)) 40) w ⟨N, defScope st, defScope st⟩ 60 σ rest) D σ H') := ⟨fun pins s σ H' D I ⟨cap, cell, h⟩ => by
    have g : GoodS ⟨P0, w0, K, mg, base, cap, cell⟩ (k0 + j) ⟨N, defScope st, defScope st⟩ (cxOf (L2.CX P0 w0) P0 w0 K mg base N "law" (defScope st) f cdv A outer s0 H E) (fun cls d _ H => E cls d H) :=
      ⟨⟨rfl, rfl, rfl, rfl, rfl, rfl, rfl, S.nd, rfl, hr, takes_of rfl rfl rfl rfl, fun _ h => h, fun _ h => ⟨h, rfl⟩⟩, rfl, passes_of rfl, rfl, rfl, S.kind⟩
    exact (snd_x ((ok cap cell).gl _ _) (pg_sound (ok cap cell) j) 60 _ _ g rest).run pins s σ H' D I h⟩
  refine ⟨_, pss_cons (ps_set (i := 1) S.nd h1 v1 (pe_call (E := E0) (D0.mono (by omega : 1 ≤ k0 + j)) hr gd hm hk hbd .nil passL (pa_cons (pe_var (i := 0) h0 (.inl v0)) pa_nil)) rfl (.inl rfl)) rs, ?_⟩
  refine ⟨_, (by unfold L2.start; rfl), a, ns, rfl, hS, h63, fun p c H' sd hpc hx g0 g1 hp hc => ⟨p, c, H', fun _ => none, H', fun _ => none, fun _ => none, startL N.length, ⟨ns.map absZ, -1, 0, sd⟩, ?_, Keep.refl, (run ns sd h63 g0 g1).mono (fun fl s2 ⟨o, e⟩ => ?_) fun _ _ z => z⟩⟩
  · have hl : 2 ≤ N.length := by
      by_cases z : 2 ≤ N.length
      · exact z
      · rw [List.getElem?_eq_none (by omega)] at h1; cases h1
    refine ⟨fun _ h => absurd rfl h, rfl, rfl, fun _ _ h => (nomatch h), fun _ _ _ => rfl, Ext.refl, fun i d o h => ?_, ⟨hp, hc, fun z => hpc z.symm⟩, ?_⟩
    · unfold startL at h
      by_cases hi : 1 = i
      · subst hi
        rw [List.getElem?_set_self (by simp; omega)] at h
        cases h
        refine ⟨.ref p, List.getElem?_set_self (by unfold L2.start; simp; omega), fun _ => ?_, fun z => nomatch z⟩
        unfold Rp
        exact .inl ⟨rfl, rfl⟩
      · rw [List.getElem?_set_ne hi, List.getElem?_replicate] at h
        split at h <;> cases h
    · unfold startL L2.start
      simp
      omega
  · subst e
    intro ow σ H2 σd v S2 r1 r2
    cases o with
    | true =>
      obtain ⟨_, _, _, _, _, _, rr⟩ := r2 rfl
      rcases rr with ⟨_, _, e, _⟩ | ⟨_, _, e, _⟩ <;> cases e
    | false =>
      have := r1 rfl
      unfold Rp at this
      subst this
      exact q H2
end Py

set_option Elab.async false
set_option linter.all false
set_option maxRecDepth 100000
namespace Py
open PySem
/-! What a def's run is, with neither names nor text: the parts. -/
def rd (σ : St) (i : Nat) : M D := match σ[i]? with
  | some (some (d, own)) => if own = true ∧ true = false then fail else pure d
  | _ => fail
def rdV (σ : St) (i : Nat) : M D := match σ[i]? with
  | some (some (d, own)) => if own = true ∧ false = false then fail else pure d
  | _ => fail
def ownI (σ : St) (i : Nat) : Option (Nat × List D) := match σ[i]? with
  | some (some (.list ds, true)) => some (i, ds)
  | _ => none
def evsS : List (M D) → M (List D)
  | [] => pure []
  | m :: ms => do let d ← m; let ds ← evsS ms; pure (d :: ds)
def tstS (m : M D) : M Bool := do let d ← m; asBool d
def andS : List (M D) → M D
  | [] => fail
  | [m] => m
  | m :: ms => do let b ← tstS m; if b = true then andS ms else pure (.bool false)
def orS : List (M D) → M D
  | [] => fail
  | [m] => m
  | m :: ms => do let b ← tstS m; if b = true then pure (.bool true) else orS ms
def ifeS (c a b : M D) : M D := do let t ← tstS c; if t = true then a else b
def binS (op : Operator) (a b : M D) : M D := do let x ← a; let y ← b; binop op x y
def negS (a : M D) : M D := do let x ← a; let i ← asInt x; pure (.int (-i))
def notS (a : M D) : M D := do let b ← tstS a; pure (.bool (!b))
def tupS (ms : List (M D)) : M D := do let ds ← evsS ms; if ds.length ≤ sline then pure (.tuple ds) else fail
def lstS (ms : List (M D)) : M D := do let ds ← evsS ms; if ds.length ≤ sline then pure (.list ds) else fail
def ixS (a i : M D) : M D := do let x ← a; let k ← i; getD' x k
def optS : Option (M D) → M (Option Int)
  | none => pure none
  | some m => do let d ← m; let i ← asInt d; pure (some i)
def slS (a : M D) (lo hi : Option (M D)) : M D := do let x ← a; let l ← optS lo; let h ← optS hi; getS x l h
def isiS (a : M D) (t : Str) : M D := do
  let x ← a
  match isi x t with
  | some b => pure (.bool b)
  | none => fail
def isiS2 (a : M D) (t t2 : Str) : M D := do
  let x ← a
  match isi x t, isi x t2 with
  | some b, some c => pure (.bool (b || c))
  | _, _ => fail
def biS (f : Str) (ms : List (M D)) : M D := do let xs ← evsS ms; bi f xs
def callS (call : Str → List D → M D) (f : Str) (ms : List (M D)) : M D := do let xs ← evsS ms; call f xs
def call0S (call : Str → List D → M D) (f : Str) : M D := do let xs ← evsS []; quiet (call f xs)
def met1S (m : Str) (o e : M D) : M D := do let x ← o; methD x m e
def callF (call : Str → List D → M D) (f : Str) (ms : List (M D)) : M D := do
  let xs ← evsS ms
  let d ← call f xs
  if flat d = true then pure d else fail
def iterS (g : Str) (ms : List (M D)) : M (List D) := do let xs ← evsS ms; iterC g xs
def compS (items : M (List D)) (bind : D → Option St) (f : St → M Bool) (g : St → M D) : M D := do
  let ds ← items
  let ys ← quiet (compL bind f g ds)
  if ys.length ≤ sline then pure (.list ys) else fail
def comp2S (items : M (List D)) (bind : D → Option St) (f : St → M Bool) (it : St → M (List D)) (vs : List Nat) (bind2 : St → D → Option St) (f2 : St → M Bool) (g : St → M D) : M D := do
  let ds ← items
  let ys ← quiet (compL2 bind f it vs bind2 f2 g ds)
  if ys.length ≤ sline then pure (.list ys) else fail
def sRet (σ : St) (m : M D) (fr : Bool) : M Flow := stE m σ fun d => pure (.ret d (fr && isL d))
def ownDI (σ : St) (i : Nat) : Option (Nat × List (D × D)) := match σ[i]? with
  | some (some (.dict kvs, true)) => some (i, kvs)
  | _ => none
/-- {k: v, ..} -/
def pairsS : List (M D × M D) → M (List (D × D))
  | [] => pure []
  | p :: r => do let x ← p.1; let y ← p.2; let ps ← pairsS r; pure ((x, y) :: ps)
def dctS (r : List (M D × M D)) : M D := do
  let ps ← pairsS r
  if dOk ps = true ∧ (ps.map fun p => keyD p.1).Nodup then pure (.dict ps) else fail
def sRetN (σ : St) (i : Nat) : M Flow := match ownI σ i with
  | some (_, ds) => pure (.ret (.list ds) true)
  | none => match ownDI σ i with
    | some (_, kvs) => if dOk kvs = true then pure (.ret (.dict kvs) true) else fail
    | none => stE (rdV σ i) σ fun d => pure (.ret d false)
def sAsg (σ : St) (m : M D) (i : Nat) (fr : Bool) : M Flow := stE m σ fun d => nx1 (some (σ.set i (some (d, fr && isL d))))
def sIf (σ : St) (c : M D) (a b : M Flow) : M Flow := stE (tstS c) σ fun t => if t = true then a else b
def sWhile (c : St → M D) (body : St → M Flow) (n : Nat) (σ : St) : M Flow := whileL (fun σ => tstS (c σ)) body n σ
def sFor (σ : St) (items : M (List D)) (t : Tg) (body : St → M Flow) : M Flow := stE items σ fun ds => forL (bindG t) body ds σ
def sTup (σ : St) (m : M D) (t : Tg) : M Flow := stE m σ fun d => nx1 (bindG t σ d)
def setZ : St → List Nat → List D → Option St
  | σ, i :: is, d :: ds => (some (σ.set i (some (d, false)))).bind fun σ' => setZ σ' is ds
  | σ, _, _ => some σ
def sPar (σ : St) (ms : List (M D)) (is : List Nat) : M Flow := stE (evsS ms) σ fun ds => nx1 (setAll σ is ds)
def sParN (σ : St) (ns : List Bool) (ms : List (M D)) (is : List Nat) : M Flow := stE (evsS ms) σ fun ds => nx1 (setPar ns σ is ds)
def revS (a : M D) : M D := do let x ← a; revD x
def sSub (σ : St) (l : Nat) (i e : M D) : M Flow := stE e σ fun d => match ownI σ l with
  | some (k, ds) => stE i σ fun j => match j with
    | .int j => match L2.ixN ds.length j with
      | some n => pure (.nx (σ.set k (some (.list (ds.set n d), true))))
      | none => fail
    | _ => fail
  | none => match ownDI σ l with
    | some (k, kvs) => stE i σ fun j => match keyD j with
      | some _ => if kvs.length < 1000 then pure (.nx (σ.set k (some (.dict (dPut kvs j d), true)))) else fail
      | none => fail
    | none => fail
def sAug (σ : St) (i : Nat) (op : Operator) (e : M D) : M Flow := match σ[i]? with
  | some (some (.int a, _)) => stE e σ fun d => match d with
    | .int b => match augI op a b with
      | some c => nx1 (some (σ.set i (some (.int c, false))))
      | none => fail
    | _ => fail
  | _ => fail
def sAugS (σ : St) (l : Nat) (i : M D) (op : Operator) (e : M D) : M Flow := match ownI σ l with
  | some (k, ds) => stE i σ fun j => match j with
    | .int j => match L2.ixN ds.length j with
      | some n => match ds[n]? with
        | some (.int a) => stE e σ fun d => match d with
          | .int b => match augI op a b with
            | some c => pure (.nx (σ.set k (some (.list (ds.set n (.int c)), true))))
            | none => fail
          | _ => fail
        | _ => fail
      | none => fail
    | _ => fail
  | none => fail
def sApp (σ : St) (l : Nat) (e : M D) : M Flow := match ownI σ l with
  | some (k, ds) => stE e σ fun d => if ds.length < sline then pure (.nx (σ.set k (some (.list (ds ++ [d]), true)))) else fail
  | none => fail
def sExt (σ : St) (l : Nat) (e : M D) : M Flow := match ownI σ l with
  | some (k, ds) => stE e σ fun d => match d with
    | .list es => if ds.length + es.length ≤ sline then pure (.nx (σ.set k (some (.list (ds ++ es), true)))) else fail
    | _ => fail
  | none => fail
/-- x = l.pop(), x = l.pop(e) -/
def sPop (σ : St) (x l : Nat) : M Flow := match ownI σ l with
  | some (i, ds) => match ds.getLast? with
    | some d => nx1 (some ((σ.set i (some (.list ds.dropLast, true))).set x (some (d, false))))
    | none => fail
  | none => fail
def sPopE (σ : St) (x l : Nat) (e : M D) : M Flow := match ownI σ l with
  | some (i, ds) => stE e σ fun j => match j with
    | .int j => match L2.ixN ds.length j with
      | some k => match ds[k]? with
        | some d => if in62 j = true then nx1 (some ((σ.set i (some (.list (ds.eraseIdx k), true))).set x (some (d, false)))) else fail
        | none => fail
      | none => fail
    | _ => fail
  | none => fail
/-- list(range(..)), tuple(range(..)) -/
def rngS (h : Str) (ms : List (M D)) : M D := do
  let xs ← evsS ms
  let ds ← iterC "range" xs
  if ds.length ≤ sline then pure (if h = ("list" : Str) then .list ds else .tuple ds) else fail
def sPop0 (σ : St) (l : Nat) : M Flow := match ownI σ l with
  | some (i, ds) => if ds.length = 0 then fail else pure (.nx (σ.set i (some (.list ds.dropLast, true))))
  | none => fail
def sExp (σ : St) (m : M D) : M Flow := stE m σ fun _ => pure (.nx σ)
def sRaise (c : Str) (σ : St) : M Flow := pure (.rz ⟨c, []⟩ σ)
def sRaiseF (c m : Str) (σ : St) : M Flow := pure (.rz ⟨c, [("reason", .str m)]⟩ σ)
def sTry (m : M Flow) (k : Flow → M Flow) : M Flow := M.bind m k
def andV : Option D → Option D → Option D
  | some (.bool p), some (.bool q) => some (.bool (p && q))
  | _, _ => none
def catV : Option D → Option D → Option D
  | some (.str p), some (.str q) => if p.length + q.length ≤ sline then some (.str (p ++ q)) else none
  | _, _ => none
def ifV (c a b : Option D) : Option D := match c with
  | some (.bool t) => if t = true then a else b
  | _ => none
def fldV (ini : Str → Bool) (x : Exc) : Option D := if ini x.cls = true then (match x.flds with
    | [(_, .str m)] => some (.str m)
    | _ => none) else none
def consV (a : Option D) (b : Option (List D)) : Option (List D) := match a, b with
    | some d, some ds => some (d :: ds)
    | _, _ => none
abbrev ClauseS := Str × (Nat → Bool) × (Exc → Option D)
def clausesS (x : Exc) (σ' : St) : List ClauseS → M Flow
  | [] => pure (.rz x σ')
  | (c, _, h) :: r => if x.cls = c then (match h x with
      | some d => pure (.ret d false)
      | none => fail) else clausesS x σ' r
def catchM (exc : Str → Bool) (l : List ClauseS) (fl : Flow) : M Flow := match fl with
  | .rz x σ' => if exc x.cls = true ∧ (l.all fun p => p.2.1 σ'.length) = true then clausesS x σ' l else fail
  | .nx σ' => pure (.nx σ')
  | .ret d o => pure (.ret d o)
  | .brk σ' => pure (.brk σ')
  | .ct σ' => pure (.ct σ')
def catchS (exc : Str → Bool) (c : Str) (inn : Nat → Bool) (hv : Str → Option D) (fl : Flow) : M Flow := catchM exc [(c, inn, fun x => hv x.cls)] fl
def sEnd (σ : St) : M Flow := pure (.nx σ)
def startN (n : Nat) (ds : List D) : St := (ds.map fun d => some (d, false)) ++ List.replicate (n - ds.length) none
def runS (fg : Flg) (np n : Nat) (body : St → M Flow) (ds : List D) : M D := if ds.length = np then do
    let fl ← quiet (body (startN n ds))
    endF fg fl
  else fail
end Py

set_option Elab.async false
set_option linter.all false
set_option maxRecDepth 100000
namespace Py
open PySem
/-! The parts by values: what simp does with them. -/
abbrev lisD (xs : List Int) : D := .list (xs.map PyData.int)
abbrev tupD (xs : List Int) : D := .tuple (xs.map PyData.int)
section
variable {α β : Type}
@[simp] theorem pure_bd (a : α) (k : α → M β) : ((pure a : M α) >>= k) = k a := of_eq_true (eq_self _)
@[simp] theorem fail_bd (k : α → M β) : ((fail : M α) >>= k) = fail := of_eq_true (eq_self _)
@[simp] theorem throw_bd (x : Exc) (k : α → M β) : ((throwX x : M α) >>= k) = throwX x := of_eq_true (eq_self _)
theorem assoc_bd {γ : Type} (m : M α) (k : α → M β) (l : β → M γ) : ((m >>= k) >>= l) = (m >>= fun a => k a >>= l) := by
  funext s
  show M.bind (M.bind m k) l s = M.bind m (fun a => M.bind (k a) l) s
  unfold M.bind
  cases m s <;> rfl
theorem ite_bd (c : Prop) [Decidable c] (m n : M α) (k : α → M β) : ((if c then m else n) >>= k) = if c then m >>= k else n >>= k := by
  split <;> rfl
@[simp] theorem quiet_pure (a : α) : quiet (pure a : M α) = pure a := of_eq_true (eq_self _)
@[simp] theorem quiet_fail : quiet (fail : M α) = fail := of_eq_true (eq_self _)
@[simp] theorem quiet_throw (x : Exc) : quiet (throwX x : M α) = fail := of_eq_true (eq_self _)
@[simp] theorem quiet_ite (c : Prop) [Decidable c] (m n : M α) : quiet (if c then m else n) = if c then quiet m else quiet n := by split <;> rfl
/-! runs at a state -/
def Res.bnd : Res α → (α → M β) → Res β
  | .ok a s, k => k a s
  | .exc x s, _ => .exc x s
  | .fail, _ => .fail
@[simp] theorem bnd_ok (a : α) (s : DS) (k : α → M β) : Res.bnd (.ok a s) k = k a s := of_eq_true (eq_self _)
@[simp] theorem bnd_exc (x : Exc) (s : DS) (k : α → M β) : Res.bnd (.exc x s) k = .exc x s := of_eq_true (eq_self _)
@[simp] theorem bnd_fail (k : α → M β) : Res.bnd .fail k = .fail := of_eq_true (eq_self _)
theorem bd_at (m : M α) (k : α → M β) (s : DS) : (m >>= k) s = (m s).bnd k := by
  show M.bind m k s = _
  unfold M.bind Res.bnd
  cases m s <;> rfl
@[simp] theorem pure_at (a : α) (s : DS) : (pure a : M α) s = .ok a s := of_eq_true (eq_self _)
@[simp] theorem fail_at (s : DS) : (fail : M α) s = .fail := of_eq_true (eq_self _)
@[simp] theorem throw_at (x : Exc) (s : DS) : (throwX x : M α) s = .exc x s := of_eq_true (eq_self _)
theorem ite_at (c : Prop) [Decidable c] (m n : M α) (s : DS) : (if c then m else n) s = if c then m s else n s := by split <;> rfl
def Res.stb : Res α → St → (α → M Flow) → Res Flow
  | .ok a s, _, k => k a s
  | .exc x s, σ, _ => .ok (.rz x σ) s
  | .fail, _, _ => .fail
@[simp] theorem stb_ok (a : α) (s : DS) (σ : St) (k : α → M Flow) : Res.stb (.ok a s) σ k = k a s := of_eq_true (eq_self _)
@[simp] theorem stb_exc (x : Exc) (s : DS) (σ : St) (k : α → M Flow) : Res.stb (.exc x s) σ k = .ok (.rz x σ) s := of_eq_true (eq_self _)
@[simp] theorem stb_fail (σ : St) (k : α → M Flow) : Res.stb .fail σ k = .fail := of_eq_true (eq_self _)
theorem stE_at (m : M α) (σ : St) (k : α → M Flow) (s : DS) : stE m σ k s = (m s).stb σ k := by
  unfold stE Res.stb
  cases m s <;> rfl
@[simp] theorem stE_pure (a : α) (σ : St) (k : α → M Flow) : stE (pure a) σ k = k a := of_eq_true (eq_self _)
@[simp] theorem q_stE_fail (σ : St) (k : α → M Flow) : stE (fail : M α) σ k = fail := of_eq_true (eq_self _)
@[simp] theorem stE_throw (x : Exc) (σ : St) (k : α → M Flow) : stE (throwX x : M α) σ k = pure (.rz x σ) := of_eq_true (eq_self _)
def Res.fl : Res Flow → (St → M Flow) → Res Flow
  | .ok (.nx σ) s, k => k σ s
  | .ok f s, _ => .ok f s
  | .exc x s, _ => .exc x s
  | .fail, _ => .fail
@[simp] theorem fl_nx (σ : St) (s : DS) (k : St → M Flow) : Res.fl (.ok (.nx σ) s) k = k σ s := of_eq_true (eq_self _)
@[simp] theorem fl_ret (d : D) (o : Bool) (s : DS) (k : St → M Flow) : Res.fl (.ok (.ret d o) s) k = .ok (.ret d o) s := of_eq_true (eq_self _)
@[simp] theorem fl_brk (σ : St) (s : DS) (k : St → M Flow) : Res.fl (.ok (.brk σ) s) k = .ok (.brk σ) s := of_eq_true (eq_self _)
@[simp] theorem fl_ct (σ : St) (s : DS) (k : St → M Flow) : Res.fl (.ok (.ct σ) s) k = .ok (.ct σ) s := of_eq_true (eq_self _)
@[simp] theorem fl_rz (x : Exc) (σ : St) (s : DS) (k : St → M Flow) : Res.fl (.ok (.rz x σ) s) k = .ok (.rz x σ) s := of_eq_true (eq_self _)
@[simp] theorem fl_fail (k : St → M Flow) : Res.fl .fail k = .fail := of_eq_true (eq_self _)
@[simp] theorem fl_exc (x : Exc) (s : DS) (k : St → M Flow) : Res.fl (.exc x s) k = .exc x s := of_eq_true (eq_self _)
theorem thenF_at (m : M Flow) (k : St → M Flow) (s : DS) : thenF m k s = (m s).fl k := by
  unfold thenF
  rw [bd_at]
  unfold Res.fl Res.bnd
  cases m s with
  | ok f s' => cases f <;> rfl
  | exc => rfl
  | fail => rfl
@[simp] theorem thenF_nx (σ : St) (k : St → M Flow) : thenF (pure (.nx σ)) k = k σ := of_eq_true (eq_self _)
@[simp] theorem thenF_ret (d : D) (o : Bool) (k : St → M Flow) : thenF (pure (.ret d o)) k = pure (.ret d o) := of_eq_true (eq_self _)
@[simp] theorem thenF_brk (σ : St) (k : St → M Flow) : thenF (pure (.brk σ)) k = pure (.brk σ) := of_eq_true (eq_self _)
@[simp] theorem thenF_ct (σ : St) (k : St → M Flow) : thenF (pure (.ct σ)) k = pure (.ct σ) := of_eq_true (eq_self _)
@[simp] theorem thenF_rz (x : Exc) (σ : St) (k : St → M Flow) : thenF (pure (.rz x σ)) k = pure (.rz x σ) := of_eq_true (eq_self _)
@[simp] theorem thenF_fail (k : St → M Flow) : thenF fail k = fail := of_eq_true (eq_self _)
theorem thenF_ite (c : Prop) [Decidable c] (m n : M Flow) (k : St → M Flow) : thenF (if c then m else n) k = if c then thenF m k else thenF n k := by split <;> rfl
theorem stE_ite (c : Prop) [Decidable c] (m n : M α) (σ : St) (k : α → M Flow) : stE (if c then m else n) σ k = if c then stE m σ k else stE n σ k := by split <;> rfl
theorem ite_pure (c : Prop) [Decidable c] (a b : α) : (if c then (pure a : M α) else pure b) = pure (if c then a else b) := by split <;> rfl
theorem ite_dbool (c : Prop) [Decidable c] (a b : Bool) : (if c then PyData.bool a else PyData.bool b) = PyData.bool (if c then a else b) := by split <;> rfl
theorem ite_dint (c : Prop) [Decidable c] (a b : Int) : (if c then PyData.int a else PyData.int b) = PyData.int (if c then a else b) := by split <;> rfl
end
/-! slots -/
def thaw : Sl → Sl
  | some (d, _) => some (d, false)
  | none => none
@[simp] theorem thaw_some (d : D) (o : Bool) : thaw (some (d, o)) = some (d, false) := of_eq_true (eq_self _)
@[simp] theorem thaw_none : thaw none = none := of_eq_true (eq_self _)
@[simp] theorem thaw_thaw (x : Sl) : thaw (thaw x) = thaw x := by cases x <;> rfl
def thawAt : Nat → St → St
  | _, [] => []
  | 0, x :: σ => thaw x :: σ
  | n + 1, x :: σ => x :: thawAt n σ
@[simp] theorem thawAt_nil (n : Nat) : thawAt n [] = [] := by cases n <;> rfl
@[simp] theorem thawAt_zero (x : Sl) (σ : St) : thawAt 0 (x :: σ) = thaw x :: σ := of_eq_true (eq_self _)
@[simp] theorem thawAt_succ (n : Nat) (x : Sl) (σ : St) : thawAt (n + 1) (x :: σ) = x :: thawAt n σ := of_eq_true (eq_self _)
theorem thawAt_set : ∀ (σ : St) (i : Nat) (d : D) (o : Bool), σ[i]? = some (some (d, o)) → σ.set i (some (d, false)) = thawAt i σ
  | [], i, d, o, h => by simp at h
  | x :: σ, 0, d, o, h => by
    simp at h
    subst h
    rfl
  | x :: σ, n + 1, d, o, h => by
    simp at h
    simp [thawAt_set σ n d o h]
theorem thawAt_id : ∀ (σ : St) (i : Nat), (∀ d o, σ[i]? ≠ some (some (d, o))) → thawAt i σ = σ
  | [], i, h => by simp
  | x :: σ, 0, h => by
    cases x with
    | none => rfl
    | some p => exact absurd rfl (h p.1 p.2)
  | x :: σ, n + 1, h => by
    simp
    exact thawAt_id σ n fun d o e => h d o (by simpa using e)
@[simp] theorem frz_nil (σ : St) : frz σ [] = σ := by cases σ <;> rfl
@[simp] theorem frz_cons (σ : St) (i : Nat) (is : List Nat) : frz σ (i :: is) = frz (thawAt i σ) is := by
  rw [frz.eq_def]
  simp only
  split
  · rename_i d o h
    rw [thawAt_set σ i d o h]
  · rename_i h
    rw [thawAt_id σ i fun d o e => h d o e]
@[simp] theorem wipe_nil (σ : St) : wipe σ [] = σ := of_eq_true (eq_self _)
@[simp] theorem wipe_cons (σ : St) (i : Nat) (is : List Nat) : wipe σ (i :: is) = (wipe σ is).set i none := of_eq_true (eq_self _)
theorem rd_def (σ : St) (i : Nat) : rd σ i = match σ[i]? with
  | some (some (d, _)) => pure d
  | _ => fail := by
  unfold rd
  split <;> simp_all
@[simp] theorem rd_zero (d : D) (o : Bool) (σ : St) : rd (some (d, o) :: σ) 0 = pure d := by simp [rd_def]
@[simp] theorem rd_succ (x : Sl) (n : Nat) (σ : St) : rd (x :: σ) (n + 1) = rd σ n := by simp [rd_def]
@[simp] theorem rdV_zero (d : D) (σ : St) : rdV (some (d, false) :: σ) 0 = pure d := by simp [rdV]
@[simp] theorem rdV_succ (x : Sl) (n : Nat) (σ : St) : rdV (x :: σ) (n + 1) = rdV σ n := by simp [rdV]
theorem ownI_some (σ : St) (i : Nat) (ds : List D) (h : σ[i]? = some (some (.list ds, true))) : ownI σ i = some (i, ds) := by
  unfold ownI
  rw [h]
theorem ownI_none (σ : St) (i : Nat) (d : D) (h : σ[i]? = some (some (d, false))) : ownI σ i = none := by
  unfold ownI
  rw [h]
  cases d <;> rfl
/-! expressions -/
@[simp] theorem evsS_nil : evsS [] = pure [] := of_eq_true (eq_self _)
@[simp] theorem evsS_pure (d : D) (ms : List (M D)) : evsS (pure d :: ms) = (do let ds ← evsS ms; pure (d :: ds)) := of_eq_true (eq_self _)
@[simp] theorem tstS_bool (b : Bool) : tstS (pure (.bool b)) = pure b := of_eq_true (eq_self _)
@[simp] theorem tstS_fail : tstS fail = fail := of_eq_true (eq_self _)
@[simp] theorem andS_one (m : M D) : andS [m] = m := of_eq_true (eq_self _)
@[simp] theorem andS_two (b : Bool) (m : M D) (ms : List (M D)) : andS (pure (.bool b) :: m :: ms) = if b = true then andS (m :: ms) else pure (.bool false) := of_eq_true (eq_self _)
@[simp] theorem orS_one (m : M D) : orS [m] = m := of_eq_true (eq_self _)
@[simp] theorem orS_two (b : Bool) (m : M D) (ms : List (M D)) : orS (pure (.bool b) :: m :: ms) = if b = true then pure (.bool true) else orS (m :: ms) := of_eq_true (eq_self _)
@[simp] theorem ifeS_pure (b : Bool) (m n : M D) : ifeS (pure (.bool b)) m n = if b = true then m else n := of_eq_true (eq_self _)
@[simp] theorem binS_pure (op : Operator) (a b : D) : binS op (pure a) (pure b) = binop op a b := of_eq_true (eq_self _)
@[simp] theorem negS_int (i : Int) : negS (pure (.int i)) = pure (.int (-i)) := of_eq_true (eq_self _)
@[simp] theorem notS_bool (b : Bool) : notS (pure (.bool b)) = pure (.bool (!b)) := of_eq_true (eq_self _)
@[simp] theorem ixS_pure (a i : D) : ixS (pure a) (pure i) = getD' a i := of_eq_true (eq_self _)
@[simp] theorem optS_none : optS none = pure none := of_eq_true (eq_self _)
@[simp] theorem optS_int (i : Int) : optS (some (pure (.int i))) = pure (some i) := of_eq_true (eq_self _)
@[simp] theorem slS_pure (a : D) (lo hi : Option (M D)) : slS (pure a) lo hi = (do let l ← optS lo; let h ← optS hi; getS a l h) := of_eq_true (eq_self _)
@[simp] theorem cmp1_pure (a b : D) (op : CmpOp) : cmp1 (pure a) (pure b) op = (do let c ← cmpop op a b; pure (.bool c)) := of_eq_true (eq_self _)
@[simp] theorem cmp2_pure (a b c : D) (op op' : CmpOp) : cmp2 (pure a) (pure b) (pure c) op op' = (do let t ← cmpop op a b; if t = true then do let u ← cmpop op' b c; pure (.bool u) else pure (.bool false)) := of_eq_true (eq_self _)
@[simp] theorem dataI_list (ds : List D) : dataI (pure (.list ds)) = pure ds := of_eq_true (eq_self _)
@[simp] theorem dataI_tuple (ds : List D) : dataI (pure (.tuple ds)) = pure ds := of_eq_true (eq_self _)
@[simp] theorem binop_add (i j : Int) : binop .Add (.int i) (.int j) = pure (.int (i + j)) := of_eq_true (eq_self _)
@[simp] theorem binop_sub (i j : Int) : binop .Sub (.int i) (.int j) = pure (.int (i - j)) := of_eq_true (eq_self _)
theorem binop_mul {i j : Int} (h : i.natAbs.log2 + j.natAbs.log2 < 1000000) : binop .Mult (.int i) (.int j) = pure (.int (i * j)) := if_pos h
theorem binop_div {i j : Int} (h : 0 < j) (h' : j.natAbs.log2 < 9000) : binop .FloorDiv (.int i) (.int j) = pure (.int (i / j)) := if_pos ⟨h, h'⟩
theorem binop_mod {i j : Int} (h : 0 < j) : binop .Mod (.int i) (.int j) = pure (.int (i % j)) := if_pos h
theorem binop_addT {a b : List D} (h : a.length + b.length ≤ sline) : binop .Add (.tuple a) (.tuple b) = pure (.tuple (a ++ b)) := if_pos h
theorem binop_addL {a b : List D} (h : a.length + b.length ≤ sline) : binop .Add (.list a) (.list b) = pure (.list (a ++ b)) := if_pos h
@[simp] theorem cmpop_lt (i j : Int) : cmpop .Lt (.int i) (.int j) = pure (decide (i < j)) := of_eq_true (eq_self _)
@[simp] theorem cmpop_le (i j : Int) : cmpop .LtE (.int i) (.int j) = pure (decide (i ≤ j)) := of_eq_true (eq_self _)
@[simp] theorem cmpop_gt (i j : Int) : cmpop .Gt (.int i) (.int j) = pure (decide (j < i)) := of_eq_true (eq_self _)
@[simp] theorem cmpop_ge (i j : Int) : cmpop .GtE (.int i) (.int j) = pure (decide (j ≤ i)) := of_eq_true (eq_self _)
@[simp] theorem cmpop_eq (x y : D) : cmpop .Eq x y = eqD x y := of_eq_true (eq_self _)
@[simp] theorem cmpop_ne (x y : D) : cmpop .NotEq x y = (do let b ← eqD x y; pure (!b)) := of_eq_true (eq_self _)
@[simp] theorem cmpop_in (x y : D) : cmpop .In x y = inD x y := of_eq_true (eq_self _)
@[simp] theorem cmpop_nin (x y : D) : cmpop .NotIn x y = (do let b ← inD x y; pure (!b)) := of_eq_true (eq_self _)
@[simp] theorem eqD_int (a b : Int) : eqD (.int a) (.int b) = pure (decide (a = b)) := by
  have h1 : PyData.eqv (.int a) (.int b) = decide (a = b) := by
    unfold PyData.eqv
    first
      | rfl
      | (by_cases h : a = b <;> simp [h])
  unfold eqD
  rw [if_pos ⟨rfl, rfl⟩, h1]
/-! built-ins -/
@[simp] theorem bi_lenL (ds : List D) : bi "len" [.list ds] = pure (.int ds.length) := of_eq_true (eq_self _)
@[simp] theorem bi_lenT (ds : List D) : bi "len" [.tuple ds] = pure (.int ds.length) := of_eq_true (eq_self _)
@[simp] theorem bi_abs (a : Int) : bi "abs" [.int a] = pure (.int (if a < 0 then -a else a)) := of_eq_true (eq_self _)
@[simp] theorem bi_int (a : Int) : bi "int" [.int a] = pure (.int a) := of_eq_true (eq_self _)
@[simp] theorem bi_listL (ds : List D) : bi "list" [.list ds] = pure (.list ds) := of_eq_true (eq_self _)
@[simp] theorem bi_listT (ds : List D) : bi "list" [.tuple ds] = pure (.list ds) := of_eq_true (eq_self _)
@[simp] theorem bi_tupleL (ds : List D) : bi "tuple" [.list ds] = pure (.tuple ds) := of_eq_true (eq_self _)
@[simp] theorem bi_tupleT (ds : List D) : bi "tuple" [.tuple ds] = pure (.tuple ds) := of_eq_true (eq_self _)
@[simp] theorem bi_max2 (i j : Int) : bi "max" [.int i, .int j] = pure (.int (max i j)) := by
  show pure _ = pure _
  congr 2
  omega
@[simp] theorem bi_min2 (i j : Int) : bi "min" [.int i, .int j] = pure (.int (min i j)) := by
  show pure _ = pure _
  congr 2
  omega
@[simp] theorem intsOf_map : ∀ xs : List Int, intsOf (xs.map PyData.int) = some xs
  | [] => rfl
  | x :: xs => by simp [intsOf, intsOf_map xs]
@[simp] theorem boolsOf_map : ∀ xs : List Bool, boolsOf (xs.map PyData.bool) = some xs
  | [] => rfl
  | x :: xs => by simp [boolsOf, boolsOf_map xs]
theorem boolsOf_map' {α : Type} (p : α → Bool) : ∀ xs : List α, boolsOf (xs.map fun x => .bool (p x)) = some (xs.map p)
  | [] => rfl
  | x :: xs => by simp [boolsOf, boolsOf_map' p xs]
theorem intsOf_map' {α : Type} (p : α → Int) : ∀ xs : List α, intsOf (xs.map fun x => .int (p x)) = some (xs.map p)
  | [] => rfl
  | x :: xs => by simp [intsOf, intsOf_map' p xs]
theorem bi_sumL {ds : List D} {ns : List Int} (h : intsOf ds = some ns) : bi "sum" [.list ds] = pure (.int ns.sum) := by
  show (match (some ds : Option (List D)).bind intsOf with | some ns => (pure (.int ns.sum) : M D) | none => fail) = _
  simp [h]
theorem bi_sumT {ds : List D} {ns : List Int} (h : intsOf ds = some ns) : bi "sum" [.tuple ds] = pure (.int ns.sum) := by
  show (match (some ds : Option (List D)).bind intsOf with | some ns => (pure (.int ns.sum) : M D) | none => fail) = _
  simp [h]
@[simp] theorem bi_sum_ints (xs : List Int) : bi "sum" [.list (xs.map PyData.int)] = pure (.int xs.sum) := bi_sumL (intsOf_map xs)
@[simp] theorem bi_sum_tup (xs : List Int) : bi "sum" [.tuple (xs.map PyData.int)] = pure (.int xs.sum) := bi_sumT (intsOf_map xs)
theorem bi_all {ds : List D} {bs : List Bool} (h : boolsOf ds = some bs) : bi "all" [.list ds] = pure (.bool (bs.all id)) := by
  show (match boolsOf ds with | some bs => (pure (.bool (bs.all id)) : M D) | none => fail) = _
  simp [h]
theorem bi_any {ds : List D} {bs : List Bool} (h : boolsOf ds = some bs) : bi "any" [.list ds] = pure (.bool (bs.any id)) := by
  show (match boolsOf ds with | some bs => (pure (.bool (bs.any id)) : M D) | none => fail) = _
  simp [h]
@[simp] theorem bi_all_map {α : Type} (p : α → Bool) (xs : List α) : bi "all" [.list (xs.map fun x => .bool (p x))] = pure (.bool (xs.all p)) := by
  rw [bi_all (boolsOf_map' p xs)]
  simp [List.all_map, Function.comp_def]
@[simp] theorem bi_any_map {α : Type} (p : α → Bool) (xs : List α) : bi "any" [.list (xs.map fun x => .bool (p x))] = pure (.bool (xs.any p)) := by
  rw [bi_any (boolsOf_map' p xs)]
  simp [List.any_map, Function.comp_def]
theorem bi_sorted (xs : List Int) : bi "sorted" [.list (xs.map PyData.int)] = pure (.list ((sortI xs).map PyData.int)) := by
  show (match intsOf (xs.map PyData.int) with | some ns => (pure (PyData.list ((sortI ns).map PyData.int)) : M D) | none => fail) = _
  simp
/-! walks -/
theorem iterC_range1 {n : Int} (h : in62 n = true) : iterC "range" [.int n] = pure (rangeD 0 n.toNat) := by
  show (if in62 n = true then pure (rangeD 0 n.toNat) else fail) = _
  rw [if_pos h]
theorem iterC_range2 {a b : Int} (h : in62 a = true) (h' : in62 b = true) : iterC "range" [.int a, .int b] = pure (rangeD a (b - a).toNat) := by
  show (if in62 a = true ∧ in62 b = true then pure (rangeD a (b - a).toNat) else fail) = _
  rw [if_pos ⟨h, h'⟩]
@[simp] theorem iterC_zipL (ds es : List D) : iterC "zip" [.list ds, .list es] = pure (zipD ds es) := of_eq_true (eq_self _)
@[simp] theorem iterC_zipT (ds es : List D) : iterC "zip" [.tuple ds, .tuple es] = pure (zipD ds es) := of_eq_true (eq_self _)
@[simp] theorem iterC_enumL (ds : List D) : iterC "enumerate" [.list ds] = pure (enumD 0 ds) := of_eq_true (eq_self _)
@[simp] theorem iterC_enumT (ds : List D) : iterC "enumerate" [.tuple ds] = pure (enumD 0 ds) := of_eq_true (eq_self _)
theorem zipD_map {α β : Type} (f : α → D) (g : β → D) : ∀ (xs : List α) (ys : List β), zipD (xs.map f) (ys.map g) = (xs.zip ys).map fun p => .tuple [f p.1, g p.2]
  | [], _ => rfl
  | _ :: _, [] => rfl
  | x :: xs, y :: ys => by simp [zipD, zipD_map f g xs ys]
/-- a comprehension by what it makes of each item -/
theorem compL_map {α : Type} {bind : D → Option St} {f : St → M Bool} {g : St → M D} (enc : α → D) (h : α → D) (p : α → Bool) : ∀ (xs : List α),
    (∀ x ∈ xs, ∃ σ, bind (enc x) = some σ ∧ f σ = pure (p x) ∧ (p x = true → g σ = pure (h x))) → compL bind f g (xs.map enc) = pure ((xs.filter p).map h)
  | [], _ => rfl
  | x :: xs, H => by
    obtain ⟨σ, h1, h2, h3⟩ := H x (List.mem_cons_self ..)
    have ih := compL_map enc h p xs fun y hy => H y (List.mem_cons_of_mem _ hy)
    rw [List.map_cons]
    unfold compL
    rw [h1]
    show ((pure σ : M St) >>= _) = _
    rw [pure_bd, h2, pure_bd, ih]
    by_cases hp : p x = true
    · rw [if_pos hp, h3 hp, List.filter_cons_of_pos hp]; rfl
    · rw [if_neg hp, List.filter_cons_of_neg hp]
theorem compS_filter {α : Type} {items : M (List D)} {bind : D → Option St} {f : St → M Bool} {g : St → M D} (xs : List α) (enc : α → D) (h : α → D) (p : α → Bool)
    (hi : items = pure (xs.map enc)) (hl : xs.length ≤ sline) (H : ∀ x ∈ xs, ∃ σ, bind (enc x) = some σ ∧ f σ = pure (p x) ∧ (p x = true → g σ = pure (h x))) :
    compS items bind f g = pure (.list ((xs.filter p).map h)) := by
  unfold compS
  rw [hi, pure_bd, compL_map enc h p xs H, quiet_pure, pure_bd, if_pos]
  rw [List.length_map]
  exact Nat.le_trans (List.length_filter_le ..) hl
theorem compS_map {α : Type} {items : M (List D)} {bind : D → Option St} {g : St → M D} (xs : List α) (enc : α → D) (h : α → D)
    (hi : items = pure (xs.map enc)) (hl : xs.length ≤ sline) (H : ∀ x ∈ xs, ∃ σ, bind (enc x) = some σ ∧ g σ = pure (h x)) :
    compS items bind (fun _ => pure true) g = pure (.list (xs.map h)) := by
  have e := compS_filter (bind := bind) (f := fun _ => pure true) (g := g) xs enc h (fun _ => true) hi hl fun x hx => ?_
  · rw [e, List.filter_eq_self.mpr fun _ _ => rfl]
  · obtain ⟨σ, h1, h2⟩ := H x hx
    exact ⟨σ, h1, rfl, fun _ => h2⟩
/-! statements -/
@[simp] theorem sEnd_def (σ : St) : sEnd σ = pure (.nx σ) := of_eq_true (eq_self _)
@[simp] theorem nx1_some (σ : St) : nx1 (some σ) = pure (.nx σ) := of_eq_true (eq_self _)
@[simp] theorem sRaise_def (c : Str) (σ : St) : sRaise c σ = pure (.rz ⟨c, []⟩ σ) := of_eq_true (eq_self _)
@[simp] theorem sRet_pure (σ : St) (d : D) (fr : Bool) : sRet σ (pure d) fr = pure (.ret d (fr && isL d)) := of_eq_true (eq_self _)
@[simp] theorem sAsg_pure (σ : St) (d : D) (i : Nat) (fr : Bool) : sAsg σ (pure d) i fr = pure (.nx (σ.set i (some (d, fr && isL d)))) := of_eq_true (eq_self _)
@[simp] theorem sIf_pure (σ : St) (b : Bool) (m n : M Flow) : sIf σ (pure (.bool b)) m n = if b = true then m else n := of_eq_true (eq_self _)
@[simp] theorem sExp_pure (σ : St) (d : D) : sExp σ (pure d) = pure (.nx σ) := of_eq_true (eq_self _)
@[simp] theorem sExp_throw (σ : St) (x : Exc) : sExp σ (throwX x) = pure (.rz x σ) := of_eq_true (eq_self _)
@[simp] theorem sPar_def (σ : St) (ms : List (M D)) (is : List Nat) : sPar σ ms is = stE (evsS ms) σ fun ds => nx1 (setAll σ is ds) := of_eq_true (eq_self _)
@[simp] theorem setAll_nil (σ : St) : setAll σ [] [] = some σ := of_eq_true (eq_self _)
@[simp] theorem setAll_cons (σ : St) (i : Nat) (is : List Nat) (d : D) (ds : List D) : setAll σ (i :: is) (d :: ds) = setAll (σ.set i (some (d, false))) is ds := of_eq_true (eq_self _)
@[simp] theorem bindG_one (i : Nat) (σ : St) (d : D) : bindG (.one i) σ d = some (σ.set i (some (d, false))) := of_eq_true (eq_self _)
@[simp] theorem bindG_manyT (is : List Nat) (σ : St) (ds : List D) : bindG (.many is) σ (.tuple ds) = setAll σ is ds := of_eq_true (eq_self _)
@[simp] theorem bindG_manyL (is : List Nat) (σ : St) (ds : List D) : bindG (.many is) σ (.list ds) = setAll σ is ds := of_eq_true (eq_self _)
@[simp] theorem sTup_pure (σ : St) (d : D) (t : Tg) : sTup σ (pure d) t = nx1 (bindG t σ d) := of_eq_true (eq_self _)
@[simp] theorem sFor_pure (σ : St) (ds : List D) (t : Tg) (b : St → M Flow) : sFor σ (pure ds) t b = forL (bindG t) b ds σ := of_eq_true (eq_self _)
@[simp] theorem isL_int (i : Int) : isL (.int i) = false := of_eq_true (eq_self _)
@[simp] theorem isL_bool (i : Bool) : isL (.bool i) = false := of_eq_true (eq_self _)
@[simp] theorem isL_tuple (i : List D) : isL (.tuple i) = false := of_eq_true (eq_self _)
@[simp] theorem isL_list (i : List D) : isL (.list i) = true := of_eq_true (eq_self _)
@[simp] theorem isL_none : isL .none = false := of_eq_true (eq_self _)
@[simp] theorem isL_str (i : Str) : isL (.str i) = false := of_eq_true (eq_self _)
@[simp] theorem isL_dict (i : List (D × D)) : isL (.dict i) = dOk i := of_eq_true (eq_self _)
@[simp] theorem endF_ret (d : D) (o : Bool) : endF ⟨false, false⟩ (.ret d o) = pure d := by
  show (if (false = true ∧ o = false) ∨ (false = true ∧ flat d = false) then fail else pure d) = _
  simp
@[simp] theorem endF_nx (σ : St) : endF ⟨false, false⟩ (.nx σ) = pure .none := of_eq_true (eq_self _)
@[simp] theorem endF_rz (x : Exc) (σ : St) (fg : Flg) : endF fg (.rz x σ) = throwX x := of_eq_true (eq_self _)
@[simp] theorem runS_1 (fg : Flg) (n : Nat) (body : St → M Flow) (a0 : D) : runS fg 1 n body [a0] = (do let fl ← quiet (body (startN n [a0])); endF fg fl) := if_pos rfl
@[simp] theorem runS_2 (fg : Flg) (n : Nat) (body : St → M Flow) (a0 a1 : D) : runS fg 2 n body [a0, a1] = (do let fl ← quiet (body (startN n [a0, a1])); endF fg fl) := if_pos rfl
@[simp] theorem runS_3 (fg : Flg) (n : Nat) (body : St → M Flow) (a0 a1 a2 : D) : runS fg 3 n body [a0, a1, a2] = (do let fl ← quiet (body (startN n [a0, a1, a2])); endF fg fl) := if_pos rfl
@[simp] theorem runS_4 (fg : Flg) (n : Nat) (body : St → M Flow) (a0 a1 a2 a3 : D) : runS fg 4 n body [a0, a1, a2, a3] = (do let fl ← quiet (body (startN n [a0, a1, a2, a3])); endF fg fl) := if_pos rfl
@[simp] theorem runS_5 (fg : Flg) (n : Nat) (body : St → M Flow) (a0 a1 a2 a3 a4 : D) : runS fg 5 n body [a0, a1, a2, a3, a4] = (do let fl ← quiet (body (startN n [a0, a1, a2, a3, a4])); endF fg fl) := if_pos rfl
@[simp] theorem runS_6 (fg : Flg) (n : Nat) (body : St → M Flow) (a0 a1 a2 a3 a4 a5 : D) : runS fg 6 n body [a0, a1, a2, a3, a4, a5] = (do let fl ← quiet (body (startN n [a0, a1, a2, a3, a4, a5])); endF fg fl) := if_pos rfl
@[simp] theorem runS_0 (fg : Flg) (n : Nat) (body : St → M Flow) : runS fg 0 n body [] = (do let fl ← quiet (body (startN n [])); endF fg fl) := if_pos rfl
end Py

set_option Elab.async false
set_option linter.all false
set_option maxRecDepth 100000
namespace Py
open PySem
theorem evsS_cons (m : M D) (ms : List (M D)) : evsS (m :: ms) = (do let d ← m; let ds ← evsS ms; pure (d :: ds)) := rfl
/-! numbers that are drawn -/
def OkS (s : DS) : Prop := -1 ≤ s.at_ ∧ 0 ≤ s.seed ∧ s.seed < 2147483647
def tv (n : Int) (s : DS) : Int := (nextS s).cur % n
def ts (n : Int) (s : DS) : DS := { nextS s with cur := (nextS s).cur / n }
theorem OkS_ts {n : Int} {s : DS} (h : OkS s) : OkS (ts n s) := by
  obtain ⟨h1, h2, h3⟩ := h
  unfold ts nextS OkS
  split
  · split
    · exact ⟨by simp; omega, h2, h3⟩
    · exact ⟨by simp; omega, by simp; omega, by simp; omega⟩
  · exact ⟨h1, h2, h3⟩
theorem tv_lo {n : Int} {s : DS} (h : 0 < n) : 0 ≤ tv n s := Int.emod_nonneg _ (by omega)
theorem tv_hi {n : Int} {s : DS} (h : 0 < n) : tv n s < n := Int.emod_lt_of_pos _ h
theorem log2_small {n : Int} (h0 : 0 < n) (h : n < 2 ^ 64) : n.natAbs.log2 < 9000 := by
  have h1 : n.natAbs < 2 ^ 64 := by omega
  have := (Nat.log2_lt (by omega : n.natAbs ≠ 0)).mpr h1
  omega
theorem take_at {n : Int} {s : DS} (hs : OkS s) (h0 : 0 < n) (h1 : n < 2 ^ 64) : takeP [tok, .int n] s = .ok (.int (tv n s)) (ts n s) := by
  show take n s = _
  unfold take
  rw [if_pos ⟨h0, log2_small h0 h1, hs.1, hs.2.1, hs.2.2⟩]
  rfl
theorem take_callF {call : Str → List D → M D} {n : Int} {s : DS} (ht : call "_law_take" = takeP) (hs : OkS s) (h0 : 0 < n) (h1 : n < 2 ^ 64) :
    callF call "_law_take" [pure tok, pure (.int n)] s = .ok (.int (tv n s)) (ts n s) := by
  unfold callF
  rw [ht]
  simp only [evsS_pure, evsS_nil, pure_bd]
  rw [bd_at, take_at hs h0 h1]
  rfl
def callT (call : Str → List D → M D) (f : Str) (xs : List D) : M D := do
  let d ← call f xs
  if flat d = true then pure d else fail
theorem callF_eq (call : Str → List D → M D) (f : Str) (ms : List (M D)) : callF call f ms = (evsS ms >>= callT call f) := rfl
theorem take_T {call : Str → List D → M D} {n : Int} {s : DS} (ht : call "_law_take" = takeP) (hs : OkS s) (h0 : 0 < n) (h1 : n < 2 ^ 64) :
    callT call "_law_take" [tok, .int n] s = .ok (.int (tv n s)) (ts n s) := by
  unfold callT
  rw [ht, bd_at, take_at hs h0 h1]
  rfl
/-- what a run comes to -/
def Res.sat {α : Type} : Res α → (α → DS → Prop) → Prop
  | .ok a s, Q => Q a s
  | .exc _ _, _ => False
  | .fail, _ => False
section
variable {α β : Type}
@[simp] theorem sat_ok (a : α) (s : DS) (Q : α → DS → Prop) : Res.sat (.ok a s) Q = Q a s := of_eq_true (eq_self _)
theorem Res.sat.ex {r : Res α} {Q : α → DS → Prop} (h : r.sat Q) : ∃ a s, r = .ok a s ∧ Q a s := by
  cases r with
  | ok a s => exact ⟨a, s, rfl, h⟩
  | exc => exact h.elim
  | fail => exact h.elim
theorem Res.sat.mono {r : Res α} {Q Q' : α → DS → Prop} (h : r.sat Q) (hq : ∀ a s, Q a s → Q' a s) : r.sat Q' := by
  obtain ⟨a, s, rfl, h⟩ := h.ex
  exact hq _ _ h
theorem Res.sat.bnd {r : Res α} {k : α → M β} {Q : β → DS → Prop} (h : r.sat fun a s => (k a s).sat Q) : (r.bnd k).sat Q := by
  obtain ⟨a, s, rfl, h⟩ := h.ex
  exact h
theorem Res.sat.stb {r : Res α} {σ : St} {k : α → M Flow} {Q : Flow → DS → Prop} (h : r.sat fun a s => (k a s).sat Q) : (r.stb σ k).sat Q := by
  obtain ⟨a, s, rfl, h⟩ := h.ex
  exact h
/-- goes on -/
def NC (P : St → DS → Prop) : Flow → DS → Prop
  | .nx σ, s => P σ s
  | .ct σ, s => P σ s
  | _, _ => False
@[simp] theorem NC_nx (P : St → DS → Prop) (σ : St) (s : DS) : NC P (.nx σ) s = P σ s := of_eq_true (eq_self _)
@[simp] theorem NC_ct (P : St → DS → Prop) (σ : St) (s : DS) : NC P (.ct σ) s = P σ s := of_eq_true (eq_self _)
def NX (P : St → DS → Prop) : Flow → DS → Prop
  | .nx σ, s => P σ s
  | _, _ => False
@[simp] theorem NX_nx (P : St → DS → Prop) (σ : St) (s : DS) : NX P (.nx σ) s = P σ s := of_eq_true (eq_self _)
theorem Res.sat.fl {r : Res Flow} {k : St → M Flow} {P : St → DS → Prop} {Q : Flow → DS → Prop} (h : r.sat (NX P)) (hk : ∀ σ s, P σ s → (k σ s).sat Q) : (r.fl k).sat Q := by
  obtain ⟨a, s, rfl, h⟩ := h.ex
  cases a with
  | nx σ => exact hk σ s h
  | _ => exact h.elim
end
/-- a loop by what holds before each turn -/
theorem forL_at {α : Type} (enc : α → D) {bind : St → D → Option St} {b : St → M Flow} (xs : List α) (I : Nat → St → DS → Prop)
    (H : ∀ k x σ s, xs[k]? = some x → I k σ s → ∃ σ1, bind σ (enc x) = some σ1 ∧ (b σ1 s).sat (NC (I (k + 1)))) {σ : St} {s : DS} (h0 : I 0 σ s) :
    (forL bind b (xs.map enc) σ s).sat (NX (I xs.length)) := by
  induction xs generalizing I σ s with
  | nil => exact h0
  | cons x xs ih =>
    obtain ⟨σ1, h1, h2⟩ := H 0 x σ s rfl h0
    obtain ⟨fl, s2, h2, h3⟩ := h2.ex
    rw [List.map_cons]
    unfold forL
    rw [h1]
    simp only
    rw [bd_at, h2]
    cases fl with
    | nx σ2 => exact ih (fun k => I (k + 1)) (fun k y σ s hy hI => H (k + 1) y σ s (by simpa using hy) hI) h3
    | ct σ2 => exact ih (fun k => I (k + 1)) (fun k y σ s hy hI => H (k + 1) y σ s (by simpa using hy) hI) h3
    | _ => exact h3.elim
/-- a comprehension over draws -/
theorem compL_at {α : Type} (enc : α → D) {bind : D → Option St} {g : St → M D} (R : α → D → Prop) : ∀ (xs : List α)
    (_ : ∀ x ∈ xs, ∀ s, OkS s → ∃ σ, bind (enc x) = some σ ∧ (g σ s).sat fun y s' => R x y ∧ OkS s') {s : DS} (_ : OkS s),
    (compL bind (fun _ => pure true) g (xs.map enc) s).sat fun ys s' => ys.length = xs.length ∧ (∀ (i : Nat) x y, xs[i]? = some x → ys[i]? = some y → R x y) ∧ OkS s'
  | [], _, s, hs => ⟨rfl, fun i x y h => by simp at h, hs⟩
  | x :: xs, H, s, hs => by
    obtain ⟨σ, h1, h2⟩ := H x (List.mem_cons_self ..) s hs
    obtain ⟨y, s1, h2, h3, h4⟩ := h2.ex
    obtain ⟨ys, s', h5, h6, h7, h8⟩ := (compL_at enc R xs (fun z hz => H z (List.mem_cons_of_mem _ hz)) h4).ex
    rw [List.map_cons]
    unfold compL
    rw [h1]
    show Res.sat (((pure σ : M St) >>= _) s) _
    rw [pure_bd, pure_bd, if_pos rfl, bd_at, h2, bnd_ok, bd_at, h5]
    refine ⟨by simp [h6], fun i u v hu hv => ?_, h8⟩
    cases i with
    | zero => simp at hu hv; subst hu; subst hv; exact h3
    | succ i => exact h7 i u v (by simpa using hu) (by simpa using hv)
theorem compS_at {α : Type} {items : M (List D)} (enc : α → D) {bind : D → Option St} {g : St → M D} (R : α → D → Prop) (xs : List α)
    (hi : items = pure (xs.map enc)) (hl : xs.length ≤ sline)
    (H : ∀ x ∈ xs, ∀ s, OkS s → ∃ σ, bind (enc x) = some σ ∧ (g σ s).sat fun y s' => R x y ∧ OkS s') {s : DS} (hs : OkS s) :
    (compS items bind (fun _ => pure true) g s).sat fun d s' => ∃ ys, d = .list ys ∧ ys.length = xs.length ∧ (∀ (i : Nat) x y, xs[i]? = some x → ys[i]? = some y → R x y) ∧ OkS s' := by
  obtain ⟨ys, s', h1, h2, h3, h4⟩ := (compL_at enc R xs H hs).ex
  unfold compS
  rw [hi, pure_bd, bd_at]
  have : quiet (compL bind (fun _ => pure true) g (xs.map enc)) s = .ok ys s' := by
    unfold quiet
    rw [h1]
  rw [this, bnd_ok, if_pos (by omega)]
  exact ⟨ys, rfl, h2, h3, h4⟩
def Res.qt {α : Type} : Res α → Res α
  | .ok a s => .ok a s
  | _ => .fail
@[simp] theorem qt_ok {α : Type} (a : α) (s : DS) : Res.qt (.ok a s) = .ok a s := of_eq_true (eq_self _)
theorem quiet_at {α : Type} (m : M α) (s : DS) : quiet m s = (m s).qt := by
  unfold quiet Res.qt
  cases m s <;> rfl
theorem Res.sat.qt {α : Type} {r : Res α} {Q : α → DS → Prop} (h : r.sat Q) : r.qt.sat Q := by
  obtain ⟨a, s, rfl, h⟩ := h.ex
  exact h
/-! sizes -/
def Bt (n : Nat) (i : Int) : Prop := i.natAbs < 2 ^ n
theorem Bt.mono {n m : Nat} {i : Int} (h : Bt n i) (hm : n ≤ m) : Bt m i := Nat.lt_of_lt_of_le h (Nat.pow_le_pow_right (by decide) hm)
theorem Bt.mul {n m : Nat} {i j : Int} (h : Bt n i) (h' : Bt m j) : Bt (n + m) (i * j) := by
  unfold Bt at *
  rw [Int.natAbs_mul, Nat.pow_add]
  exact Nat.mul_lt_mul'' h h'
theorem Bt.add {n : Nat} {i j : Int} (h : Bt n i) (h' : Bt n j) : Bt (n + 1) (i + j) := by
  unfold Bt at *
  rw [Nat.pow_succ]
  omega
theorem Bt.sub {n : Nat} {i j : Int} (h : Bt n i) (h' : Bt n j) : Bt (n + 1) (i - j) := by
  unfold Bt at *
  rw [Nat.pow_succ]
  omega
theorem Bt.neg {n : Nat} {i : Int} (h : Bt n i) : Bt n (-i) := by
  unfold Bt at *
  omega
theorem Bt.log {n : Nat} {i : Int} (h : Bt n i) : i.natAbs.log2 ≤ n := by
  by_cases h0 : i.natAbs = 0
  · rw [h0]; simp
  · exact Nat.le_of_lt ((Nat.log2_lt h0).mpr h)
theorem Bt.of_lt {n : Nat} {i : Int} (h : -(2 ^ n) < i) (h' : i < 2 ^ n) : Bt n i := by
  unfold Bt
  have : ((2 ^ n : Nat) : Int) = 2 ^ n := by simp
  omega
theorem Bt.list {n : Nat} : ∀ (xs : List Int) (k : Nat), xs.length ≤ k → (∀ x ∈ xs, Bt n x) → xs.sum.natAbs ≤ k * 2 ^ n
  | [], k, _, _ => by simp
  | x :: xs, 0, h, _ => by simp at h
  | x :: xs, k + 1, h, H => by
    have ih := Bt.list xs k (by simpa using h) fun y hy => H y (List.mem_cons_of_mem _ hy)
    have h1 : x.natAbs < 2 ^ n := H x (List.mem_cons_self ..)
    rw [List.sum_cons, Nat.add_mul, Nat.one_mul]
    omega
theorem Bt.sum {n m : Nat} {xs : List Int} (hl : xs.length < 2 ^ m) (H : ∀ x ∈ xs, Bt n x) : Bt (n + m) xs.sum := by
  have h := Bt.list xs xs.length (Nat.le_refl _) H
  unfold Bt
  rw [Nat.pow_add]
  have h2 : 0 < 2 ^ n := Nat.two_pow_pos n
  have : xs.length * 2 ^ n < 2 ^ m * 2 ^ n := Nat.mul_lt_mul_of_pos_right hl h2
  rw [Nat.mul_comm (2 ^ n)]
  omega
theorem bmul {n m : Nat} {i j : Int} (h : Bt n i) (h' : Bt m j) (hm : n + m < 1000000 := by omega) : binop .Mult (.int i) (.int j) = pure (.int (i * j)) := binop_mul (by have := h.log; have := h'.log; omega)
theorem bdiv {n : Nat} {i j : Int} (h : 0 < j) (h' : Bt n j) (hm : n < 9000 := by omega) : binop .FloorDiv (.int i) (.int j) = pure (.int (i / j)) := binop_div h (by have := h'.log; omega)
theorem bdivN {n : Nat} {i j : Int} (h : j < 0) (h' : Bt n j) (hm : n < 9000 := by omega) : binop .FloorDiv (.int i) (.int j) = pure (.int (i.fdiv j)) := by
  show (if 0 < j ∧ j.natAbs.log2 < 9000 then _ else _) = _
  rw [if_neg (by omega), if_pos ⟨h, by have := h'.log; omega⟩]
/-! values -/
mutual
/-- no dict within -/
def nod : D → Bool
  | .dict _ => false
  | .tuple ds => nods ds
  | .list ds => nods ds
  | _ => true
def nods : List D → Bool
  | [] => true
  | d :: ds => nod d && nods ds
end
@[simp] theorem nods_nil : nods [] = true := by unfold nods; rfl
@[simp] theorem nods_cons (d : D) (ds : List D) : nods (d :: ds) = (nod d && nods ds) := by rw [nods]
@[simp] theorem nod_tuple (ds : List D) : nod (.tuple ds) = nods ds := by rw [nod]
@[simp] theorem nod_list (ds : List D) : nod (.list ds) = nods ds := by rw [nod]
@[simp] theorem nod_int (i : Int) : nod (.int i) = true := by simp [nod]
@[simp] theorem nod_bool (i : Bool) : nod (.bool i) = true := by simp [nod]
@[simp] theorem nod_str (i : Str) : nod (.str i) = true := by simp [nod]
@[simp] theorem nod_none : nod .none = true := by simp [nod]
@[simp] theorem nods_append : ∀ a b : List D, nods (a ++ b) = (nods a && nods b)
  | [], b => by simp
  | x :: a, b => by simp [nods_append a b, Bool.and_assoc]
theorem nods_all : ∀ ds : List D, nods ds = ds.all nod
  | [] => by simp
  | d :: ds => by simp [nods_all ds]
@[simp] theorem nods_map {α : Type} (f : α → D) (xs : List α) (h : ∀ x, nod (f x) = true) : nods (xs.map f) = true := by
  rw [nods_all, List.all_eq_true]
  intro d hd
  obtain ⟨x, _, rfl⟩ := List.mem_map.mp hd
  exact h x
@[simp] theorem nods_ints (xs : List Int) : nods (xs.map PyData.int) = true := nods_map _ _ fun _ => by simp
@[simp] theorem nods_rep (n : Nat) (d : D) (h : nod d = true) : nods (List.replicate n d) = true := by
  rw [nods_all, List.all_eq_true]
  intro e he
  rw [List.eq_of_mem_replicate he]
  exact h
theorem nods_mem {ds : List D} (h : nods ds = true) {d : D} (hd : d ∈ ds) : nod d = true := by
  rw [nods_all, List.all_eq_true] at h
  exact h d hd
def noD : D → Bool
  | .dict _ => false
  | _ => true
theorem nod_noD {d : D} (h : nod d = true) : noD d = true := by
  cases d with
  | dict => rw [nod] at h; exact h
  | _ => rfl
/-! indices -/
theorem atI_nn {α : Type} {xs : List α} {i : Int} (h : 0 ≤ i) : L2.atI xs i = xs[i.toNat]? := by
  unfold L2.atI L2.ixN
  rw [if_pos h]
  split
  · rfl
  · rw [List.getElem?_eq_none (by omega)]
    rfl
theorem atI_neg1 {α : Type} (xs : List α) : L2.atI xs (-1) = xs.getLast? := by
  unfold L2.atI L2.ixN
  rw [if_neg (by decide), List.getLast?_eq_getElem?]
  split
  · show xs[_]? = _
    congr 1
    omega
  · have : xs.length = 0 := by omega
    simp [List.eq_nil_of_length_eq_zero this]
theorem getT_nat {ds : List D} {i : Nat} {d : D} (h : ds[i]? = some d) : getD' (.tuple ds) (.int i) = pure d := by
  show (match L2.atI ds i with | some d => pure d | none => fail) = _
  rw [atI_nn (by omega), Int.toNat_natCast, h]
theorem getL_nat {ds : List D} {i : Nat} {d : D} (h : ds[i]? = some d) : getD' (.list ds) (.int i) = pure d := by
  show (match L2.atI ds i with | some d => pure d | none => fail) = _
  rw [atI_nn (by omega), Int.toNat_natCast, h]
theorem getT_last {ds : List D} {d : D} (h : ds.getLast? = some d) : getD' (.tuple ds) (.int (-1)) = pure d := by
  show (match L2.atI ds (-1) with | some d => pure d | none => fail) = _
  rw [atI_neg1, h]
theorem getL_last {ds : List D} {d : D} (h : ds.getLast? = some d) : getD' (.list ds) (.int (-1)) = pure d := by
  show (match L2.atI ds (-1) with | some d => pure d | none => fail) = _
  rw [atI_neg1, h]
theorem in62_nat {n : Nat} (h : n < 2 ^ 62) : in62 (n : Int) = true := by
  unfold in62
  simp
  omega
theorem in62_of {n : Int} (h : -(2 ^ 62) ≤ n) (h' : n < 2 ^ 62) : in62 n = true := by
  unfold in62
  simp
  omega
theorem rangeD_eq (lo : Int) (n : Nat) : rangeD lo n = (List.range n).map fun (i : Nat) => PyData.int (lo + (i : Int)) := rfl
theorem ixN_neg1 {n : Nat} (h : 0 < n) : L2.ixN n (-1) = some (n - 1) := by
  unfold L2.ixN
  rw [if_neg (by decide), if_pos (by omega)]
  congr 1
  omega
theorem ixN_nn {n : Nat} {i : Int} (h : 0 ≤ i) (h' : i < n) : L2.ixN n i = some i.toNat := by
  unfold L2.ixN
  rw [if_pos h, if_pos h']
theorem ixN_nat {n i : Nat} (h : i < n) : L2.ixN n (i : Int) = some i := by
  rw [ixN_nn (by omega) (by omega)]
  rfl
theorem snoc_of {α : Type} {xs : List α} (h : 1 ≤ xs.length) : ∃ ys z, xs = ys ++ [z] :=
  ⟨xs.dropLast, xs.getLast (by intro e; subst e; simp at h), (List.dropLast_concat_getLast _).symm⟩
@[simp] theorem getL_snoc (ds : List D) (d : D) : getD' (.list (ds ++ [d])) (.int (-1)) = pure d := getL_last (by simp)
@[simp] theorem getT_snoc (ds : List D) (d : D) : getD' (.tuple (ds ++ [d])) (.int (-1)) = pure d := getT_last (by simp)
theorem set_snoc {α : Type} (xs : List α) (a b : α) : (xs ++ [a]).set xs.length b = xs ++ [b] := by
  rw [List.set_append_right _ _ (Nat.le_refl _)]
  simp
/-! pieces -/
theorem cut_all {α : Type} (xs : List α) : cut xs none none = xs := by
  unfold cut
  rw [HT.sIx_none, HT.sIx_none]
  simp
theorem cut_to {α : Type} (xs : List α) {k : Int} (h : 0 ≤ k) : cut xs none (some k) = xs.take k.toNat := by
  unfold cut
  rw [HT.sIx_none]
  have : HT.sIx xs.length xs.length (some k) = min k.toNat xs.length := by
    show (if k < 0 then _ else _) = _
    rw [if_neg (by omega)]
  rw [this, Nat.sub_zero, List.drop_zero, List.take_eq_take_iff]
  omega
theorem cut_from {α : Type} (xs : List α) {k : Int} (h : 0 ≤ k) : cut xs (some k) none = xs.drop k.toNat := by
  unfold cut
  have : HT.sIx xs.length 0 (some k) = min k.toNat xs.length := by
    show (if k < 0 then _ else _) = _
    rw [if_neg (by omega)]
  rw [this, HT.sIx_none, List.take_of_length_le (by simp)]
  by_cases hk : k.toNat ≤ xs.length
  · rw [Nat.min_eq_left hk]
  · rw [Nat.min_eq_right (by omega), List.drop_of_length_le (by omega), List.drop_of_length_le (by omega)]
theorem cut_neg1 {α : Type} (xs : List α) : cut xs none (some (-1)) = xs.dropLast := by
  unfold cut
  have : HT.sIx xs.length xs.length (some (-1)) = xs.length - 1 := by
    show (if (-1 : Int) < 0 then (-1 + (xs.length : Int)).toNat else min (-1 : Int).toNat xs.length) = _
    rw [if_pos (by decide)]
    omega
  rw [this, HT.sIx_none, List.dropLast_eq_take]
  simp
@[simp] theorem getS_T (ds : List D) (lo hi : Option Int) : getS (.tuple ds) lo hi = pure (.tuple (cut ds lo hi)) := of_eq_true (eq_self _)
@[simp] theorem getS_L (ds : List D) (lo hi : Option Int) : getS (.list ds) lo hi = pure (.list (cut ds lo hi)) := of_eq_true (eq_self _)
theorem flat_rep {α : Type} (d : α) : ∀ n : Nat, (List.replicate n [d]).flatten = List.replicate n d
  | 0 => rfl
  | n + 1 => by rw [List.replicate_succ, List.replicate_succ, List.flatten_cons, flat_rep d n]; rfl
theorem binop_mulT {d : D} {k : Int} (h : 2 ≤ k) (h' : k ≤ 1000) : binop .Mult (.tuple [d]) (.int k) = pure (.tuple (List.replicate k.toNat d)) := by
  show (if [d] ≠ [] ∧ 2 ≤ k ∧ k ≤ 1000 ∧ [d].length ≤ 1000 then _ else _) = _
  rw [if_pos ⟨by simp, h, h', by simp⟩, flat_rep]
theorem binop_mulT1 (d : D) : binop .Mult (.tuple [d]) (.int 1) = pure (.tuple [d]) := by
  have e : binop .Mult (.tuple [d]) (.int 1) = if [d] ≠ [] ∧ (2 : Int) ≤ 1 ∧ (1 : Int) ≤ 1000 ∧ [d].length ≤ 1000 then pure (.tuple (List.replicate (1 : Int).toNat [d]).flatten) else if [d] ≠ [] ∧ (1 : Int) = 1 then pure (.tuple [d]) else fail := rfl
  rw [e, if_neg (by omega), if_pos ⟨by simp, rfl⟩]
theorem binop_mulTN {d : D} {k : Int} (h : 1 ≤ k) (h' : k ≤ 1000) : binop .Mult (.tuple [d]) (.int k) = pure (.tuple (List.replicate k.toNat d)) := by
  by_cases h2 : 2 ≤ k
  · exact binop_mulT h2 h'
  · have : k = 1 := by omega
    subst this
    exact binop_mulT1 d
theorem binop_mulL {d : D} {k : Int} (h : -1000000 ≤ k) (h' : k ≤ 1000000) : binop .Mult (.list [d]) (.int k) = pure (.list (List.replicate k.toNat d)) := by
  show (if k < 2 ^ 62 ∧ -(2 ^ 62) ≤ k ∧ [d].length * k.toNat ≤ sline then _ else _) = _
  rw [if_pos ⟨by omega, by omega, by unfold sline; simp; omega⟩, flat_rep]
/-- one of a written list -/
theorem pick {ds : List D} {i : Int} (h : 0 ≤ i) (h' : i < ds.length) : ∃ d ∈ ds, getD' (.list ds) (.int i) = pure d := by
  have hi : i.toNat < ds.length := by omega
  refine ⟨ds[i.toNat], List.getElem_mem hi, ?_⟩
  have := getL_nat (List.getElem?_eq_getElem hi)
  rwa [Int.toNat_of_nonneg h] at this
def sel (ds : List D) (i : Int) : D := ds.getD i.toNat .none
theorem sel_mem {ds : List D} {i : Int} (h : 0 ≤ i) (h' : i < ds.length) : sel ds i ∈ ds := by
  unfold sel
  have hi : i.toNat < ds.length := by omega
  rw [List.getD_eq_getElem?_getD, List.getElem?_eq_getElem hi]
  exact List.getElem_mem hi
theorem getL_sel {ds : List D} {i : Int} (h : 0 ≤ i) (h' : i < ds.length) : getD' (.list ds) (.int i) = pure (sel ds i) := by
  have hi : i.toNat < ds.length := by omega
  have := getL_nat (List.getElem?_eq_getElem hi)
  rw [Int.toNat_of_nonneg h] at this
  rw [this]
  unfold sel
  rw [List.getD_eq_getElem?_getD, List.getElem?_eq_getElem hi]
  rfl
theorem sel_all {P : D → Prop} {ds : List D} {i : Int} (h : 0 ≤ i) (h' : i < ds.length) (H : ∀ d ∈ ds, P d) : P (sel ds i) := H _ (sel_mem h h')
/-! what may be compared -/
def fine (n : Nat) (d : D) : Bool := d.canLay0 && decide (d.depth ≤ n)
theorem shaped_fine (d : D) : SeqAt.shaped d = fine 64 d := rfl
@[simp] theorem fine_int (n : Nat) (i : Int) : fine n (.int i) = true := by simp [fine, PyData.canLay0, PyData.depth]
@[simp] theorem fine_bool (n : Nat) (i : Bool) : fine n (.bool i) = true := by simp [fine, PyData.canLay0, PyData.depth]
@[simp] theorem fine_none (n : Nat) : fine n .none = true := by simp [fine, PyData.canLay0, PyData.depth]
theorem fine_strE (n : Nat) (x : Str) : fine n (.str x) = PyData.canLay0 (.str x) := by simp [fine, PyData.depth]
theorem fines : ∀ (n : Nat) (ds : List D), (PyData.canLayAll0 ds && decide (PyData.depthAll ds ≤ n)) = ds.all (fine n)
  | n, [] => by simp [PyData.canLayAll0, PyData.depthAll]
  | n, d :: ds => by
    have ih := fines n ds
    rw [List.all_cons, ← ih]
    simp [PyData.canLayAll0, PyData.depthAll, fine]
    have hm : decide (max d.depth (PyData.depthAll ds) ≤ n) = (decide (d.depth ≤ n) && decide (PyData.depthAll ds ≤ n)) := by
      simp [Nat.max_le]
    try rw [hm]
    cases d.canLay0 <;> cases PyData.canLayAll0 ds <;> simp [Nat.max_le]
@[simp] theorem fine_list (n : Nat) (ds : List D) : fine (n + 1) (.list ds) = ds.all (fine n) := by
  rw [← fines]
  simp [fine, PyData.canLay0, PyData.depth]
@[simp] theorem fine_tuple (n : Nat) (ds : List D) : fine (n + 1) (.tuple ds) = ds.all (fine n) := by
  rw [← fines]
  simp [fine, PyData.canLay0, PyData.depth]
theorem all_map_int (n : Nat) (xs : List Int) : (xs.map PyData.int).all (fine n) = true := by simp [List.all_map, Function.comp_def]
mutual
theorem eqv_self : ∀ d : D, d.canLay0 = true → PyData.eqv d d = true
  | .none, _ => by simp [PyData.eqv]
  | .bool _, _ => by simp [PyData.eqv]
  | .int _, _ => by simp [PyData.eqv]
  | .str _, _ => by simp [PyData.eqv]
  | .list ds, h => by
    simp [PyData.eqv]
    exact eqvAll_self ds (by simpa [PyData.canLay0] using h)
  | .tuple ds, h => by
    simp [PyData.eqv]
    exact eqvAll_self ds (by simpa [PyData.canLay0] using h)
  | .dict _, h => by simp [PyData.canLay0] at h
theorem eqvAll_self : ∀ ds : List D, PyData.canLayAll0 ds = true → PyData.eqvAll ds ds = true
  | [], _ => by simp [PyData.eqvAll]
  | d :: ds, h => by
    have h' : d.canLay0 = true ∧ PyData.canLayAll0 ds = true := by simpa [PyData.canLayAll0] using h
    simp [PyData.eqvAll, eqv_self d h'.1, eqvAll_self ds h'.2]
end
theorem eqD_self {d : D} (h : fine 64 d = true) : eqD d d = pure true := by
  have h1 : d.canLay0 = true := by
    unfold fine at h
    exact (Bool.and_eq_true_iff.mp h).1
  unfold eqD
  rw [shaped_fine, if_pos ⟨h, h⟩, eqv_self d h1]
theorem eqD_def {x y : D} (h : fine 64 x = true) (h' : fine 64 y = true) : eqD x y = pure (PyData.eqv x y) := by
  unfold eqD
  rw [shaped_fine, shaped_fine, if_pos ⟨h, h'⟩]
theorem eqvAll_nil (ds : List D) : PyData.eqvAll ds [] = ds.isEmpty := by cases ds <;> simp [PyData.eqvAll]
theorem eqvAll_ints : ∀ xs ys : List Int, PyData.eqvAll (xs.map .int) (ys.map .int) = decide (xs = ys)
  | [], [] => by simp [PyData.eqvAll]
  | x :: xs, [] => by simp [PyData.eqvAll]
  | [], y :: ys => by simp [PyData.eqvAll]
  | x :: xs, y :: ys => by
    simp [PyData.eqvAll, eqvAll_ints xs ys, PyData.eqv]
    by_cases h : x = y <;> simp [h]
theorem eqD_nil {ds : List D} (h : ds.all (fine 63) = true) : eqD (.list ds) (.list []) = pure ds.isEmpty := by
  rw [eqD_def (by simpa using h) (by simp)]
  simp [PyData.eqv, eqvAll_nil]
theorem eqD_lis (xs ys : List Int) : eqD (lisD xs) (lisD ys) = pure (decide (xs = ys)) := by
  rw [eqD_def (by rw [fine_list]; exact all_map_int _ _) (by rw [fine_list]; exact all_map_int _ _)]
  simp [PyData.eqv, eqvAll_ints]
theorem eqD_tup (xs ys : List Int) : eqD (tupD xs) (tupD ys) = pure (decide (xs = ys)) := by
  rw [eqD_def (by rw [fine_tuple]; exact all_map_int _ _) (by rw [fine_tuple]; exact all_map_int _ _)]
  simp [PyData.eqv, eqvAll_ints]
theorem eqD_str {a b : Str} (h : PyData.canLay0 (.str a) = true) (h' : PyData.canLay0 (.str b) = true) : eqD (.str a) (.str b) = pure (a == b) := by
  rw [eqD_def (by rw [fine_strE]; exact h) (by rw [fine_strE]; exact h')]
  simp [PyData.eqv]
/-! items of rows of numbers -/
def ix (xs : List Int) (i : Int) : Int := xs.getD i.toNat 0
theorem ix_get {xs : List Int} {i : Int} (h : 0 ≤ i) (h' : i < xs.length) : xs[i.toNat]? = some (ix xs i) := by
  have hi : i.toNat < xs.length := by omega
  unfold ix
  rw [List.getD_eq_getElem?_getD, List.getElem?_eq_getElem hi]
  rfl
theorem getT_ix {xs : List Int} {i : Int} (h : 0 ≤ i) (h' : i < xs.length) : getD' (.tuple (xs.map .int)) (.int i) = pure (.int (ix xs i)) := by
  have := getT_nat (ds := xs.map .int) (i := i.toNat) (d := .int (ix xs i)) (by rw [List.getElem?_map, ix_get h h']; rfl)
  rwa [Int.toNat_of_nonneg h] at this
theorem getL_ix {xs : List Int} {i : Int} (h : 0 ≤ i) (h' : i < xs.length) : getD' (.list (xs.map .int)) (.int i) = pure (.int (ix xs i)) := by
  have := getL_nat (ds := xs.map .int) (i := i.toNat) (d := .int (ix xs i)) (by rw [List.getElem?_map, ix_get h h']; rfl)
  rwa [Int.toNat_of_nonneg h] at this
theorem ix_mem {xs : List Int} {i : Int} (h : 0 ≤ i) (h' : i < xs.length) : ix xs i ∈ xs := List.mem_of_getElem? (ix_get h h')
theorem ix_map {α : Type} (f : α → Int) (xs : List α) (i : Nat) (h : i < xs.length) : ix (xs.map f) i = f xs[i] := by
  unfold ix
  rw [List.getD_eq_getElem?_getD, Int.toNat_natCast, List.getElem?_map, List.getElem?_eq_getElem h]
  rfl
/-! isinstance -/
@[simp] theorem isi_none_int : isiS (pure .none) "int" = pure (.bool false) := of_eq_true (eq_self _)
@[simp] theorem isi_none_bool : isiS (pure .none) "bool" = pure (.bool false) := of_eq_true (eq_self _)
@[simp] theorem isi_none_str : isiS (pure .none) "str" = pure (.bool false) := of_eq_true (eq_self _)
@[simp] theorem isi_none_tuple : isiS (pure .none) "tuple" = pure (.bool false) := of_eq_true (eq_self _)
@[simp] theorem isi_none_list : isiS (pure .none) "list" = pure (.bool false) := of_eq_true (eq_self _)
@[simp] theorem isi_bool_int (b : Bool) : isiS (pure (.bool b)) "int" = pure (.bool true) := of_eq_true (eq_self _)
@[simp] theorem isi_bool_bool (b : Bool) : isiS (pure (.bool b)) "bool" = pure (.bool true) := of_eq_true (eq_self _)
@[simp] theorem isi_bool_str (b : Bool) : isiS (pure (.bool b)) "str" = pure (.bool false) := of_eq_true (eq_self _)
@[simp] theorem isi_bool_tuple (b : Bool) : isiS (pure (.bool b)) "tuple" = pure (.bool false) := of_eq_true (eq_self _)
@[simp] theorem isi_bool_list (b : Bool) : isiS (pure (.bool b)) "list" = pure (.bool false) := of_eq_true (eq_self _)
@[simp] theorem isi_int_int (i : Int) : isiS (pure (.int i)) "int" = pure (.bool true) := of_eq_true (eq_self _)
@[simp] theorem isi_int_bool (i : Int) : isiS (pure (.int i)) "bool" = pure (.bool false) := of_eq_true (eq_self _)
@[simp] theorem isi_int_str (i : Int) : isiS (pure (.int i)) "str" = pure (.bool false) := of_eq_true (eq_self _)
@[simp] theorem isi_int_tuple (i : Int) : isiS (pure (.int i)) "tuple" = pure (.bool false) := of_eq_true (eq_self _)
@[simp] theorem isi_int_list (i : Int) : isiS (pure (.int i)) "list" = pure (.bool false) := of_eq_true (eq_self _)
@[simp] theorem isi_str_int (x : Str) : isiS (pure (.str x)) "int" = pure (.bool false) := of_eq_true (eq_self _)
@[simp] theorem isi_str_bool (x : Str) : isiS (pure (.str x)) "bool" = pure (.bool false) := of_eq_true (eq_self _)
@[simp] theorem isi_str_str (x : Str) : isiS (pure (.str x)) "str" = pure (.bool true) := of_eq_true (eq_self _)
@[simp] theorem isi_str_tuple (x : Str) : isiS (pure (.str x)) "tuple" = pure (.bool false) := of_eq_true (eq_self _)
@[simp] theorem isi_str_list (x : Str) : isiS (pure (.str x)) "list" = pure (.bool false) := of_eq_true (eq_self _)
@[simp] theorem isi_tuple_int (ds : List D) : isiS (pure (.tuple ds)) "int" = pure (.bool false) := of_eq_true (eq_self _)
@[simp] theorem isi_tuple_bool (ds : List D) : isiS (pure (.tuple ds)) "bool" = pure (.bool false) := of_eq_true (eq_self _)
@[simp] theorem isi_tuple_str (ds : List D) : isiS (pure (.tuple ds)) "str" = pure (.bool false) := of_eq_true (eq_self _)
@[simp] theorem isi_tuple_tuple (ds : List D) : isiS (pure (.tuple ds)) "tuple" = pure (.bool true) := of_eq_true (eq_self _)
@[simp] theorem isi_tuple_list (ds : List D) : isiS (pure (.tuple ds)) "list" = pure (.bool false) := of_eq_true (eq_self _)
@[simp] theorem isi_list_int (ds : List D) : isiS (pure (.list ds)) "int" = pure (.bool false) := of_eq_true (eq_self _)
@[simp] theorem isi_list_bool (ds : List D) : isiS (pure (.list ds)) "bool" = pure (.bool false) := of_eq_true (eq_self _)
@[simp] theorem isi_list_str (ds : List D) : isiS (pure (.list ds)) "str" = pure (.bool false) := of_eq_true (eq_self _)
@[simp] theorem isi_list_tuple (ds : List D) : isiS (pure (.list ds)) "tuple" = pure (.bool false) := of_eq_true (eq_self _)
@[simp] theorem isi_list_list (ds : List D) : isiS (pure (.list ds)) "list" = pure (.bool true) := of_eq_true (eq_self _)
theorem sl {n : Nat} (h : n ≤ 10000) : n ≤ sline := Nat.le_trans h (by decide)
theorem sl' {n : Nat} (h : n ≤ 10000) : n < sline := Nat.lt_of_le_of_lt h (by decide)
@[simp] theorem bi_sum_map {α : Type} (f : α → Int) (xs : List α) : bi "sum" [.list (xs.map fun x => .int (f x))] = pure (.int (xs.map f).sum) := bi_sumL (intsOf_map' f xs)
@[simp] theorem bi_sum_comp {α : Type} (f : α → Int) (xs : List α) : bi "sum" [.list (xs.map (PyData.int ∘ f))] = pure (.int (xs.map f).sum) := bi_sumL (intsOf_map' f xs)
theorem filter_empty {α : Type} (p : α → Bool) (xs : List α) : (xs.filter p).isEmpty = xs.all fun x => !p x := by
  induction xs with
  | nil => rfl
  | cons x xs ih =>
    by_cases h : p x = true
    · rw [List.filter_cons_of_pos h]
      simp [h]
    · rw [List.filter_cons_of_neg h, ih]
      simp [h]
theorem eqD_filtF {α : Type} {f : α → D} (h : ∀ x, fine 63 (f x) = true) (p : α → Bool) (xs : List α) : eqD (.list ((xs.filter p).map f)) (.list []) = pure (xs.all fun x => !p x) := by
  rw [eqD_nil, List.isEmpty_map, filter_empty]
  rw [List.all_map, List.all_eq_true]
  exact fun x _ => h x
theorem eqD_filt {α : Type} (f : α → Int) (p : α → Bool) (xs : List α) : eqD (.list ((xs.filter p).map fun x => .int (f x))) (.list []) = pure (xs.all fun x => !p x) := eqD_filtF (fun _ => by simp) p xs
theorem eqD_filtI (p : Int → Bool) (xs : List Int) : eqD (.list ((xs.filter p).map PyData.int)) (.list []) = pure (xs.all fun x => !p x) := eqD_filtF (fun _ => by simp) p xs
@[simp] theorem nod_dict (kvs : List (D × D)) : nod (.dict kvs) = false := by simp [nod]
@[simp] theorem ndlt (a b : Int) : (!decide (a < b)) = decide (b ≤ a) := by
  rw [Bool.eq_iff_iff]
  simp
@[simp] theorem ndle (a b : Int) : (!decide (a ≤ b)) = decide (b < a) := by
  rw [Bool.eq_iff_iff]
  simp
theorem sortI_len (xs : List Int) : (sortI xs).length = xs.length := by simp [sortI]
theorem sortI_mem {xs : List Int} {x : Int} : x ∈ sortI xs ↔ x ∈ xs := by simp [sortI]
/-- drawn items that are numbers -/
theorem dints_of {α : Type} {ys : List D} {xs : List α} {P : Int → Prop} (hl : ys.length = xs.length) (h : ∀ (i : Nat) (x : α) y, xs[i]? = some x → ys[i]? = some y → ∃ n, y = .int n ∧ P n) :
    ∃ ns : List Int, ys = ns.map .int ∧ ns.length = xs.length ∧ ∀ n ∈ ns, P n := by
  induction ys generalizing xs with
  | nil => exact ⟨[], rfl, by simpa using hl, by simp⟩
  | cons y ys ih =>
    cases xs with
    | nil => simp at hl
    | cons x xs =>
      obtain ⟨ns, rfl, h2, h3⟩ := ih (xs := xs) (by simpa using hl) fun i x y hx hy => h (i + 1) x y (by simpa using hx) (by simpa using hy)
      obtain ⟨n, rfl, hn⟩ := h 0 x y rfl rfl
      exact ⟨n :: ns, rfl, by simp [h2], by simpa using ⟨hn, h3⟩⟩
theorem range0 {n : Int} (h : n ≤ 100000) (h' : -100000 ≤ n) : iterC "range" [.int n] = pure ((List.range n.toNat).map fun (i : Nat) => PyData.int (0 + (i : Int))) := iterC_range1 (in62_of (by omega) (by omega))
theorem range2 {a b : Int} (h : a ≤ 100000) (h' : -100000 ≤ a) (g : b ≤ 100000) (g' : -100000 ≤ b) : iterC "range" [.int a, .int b] = pure ((List.range (b - a).toNat).map fun (i : Nat) => PyData.int (a + (i : Int))) := iterC_range2 (in62_of (by omega) (by omega)) (in62_of (by omega) (by omega))
@[simp] theorem sTry_pure (fl : Flow) (k : Flow → M Flow) : sTry (pure fl) k = k fl := of_eq_true (eq_self _)
@[simp] theorem catch_ret (e : Str → Bool) (c : Str) (i : Nat → Bool) (h : Str → Option D) (d : D) (o : Bool) : catchS e c i h (.ret d o) = pure (.ret d o) := of_eq_true (eq_self _)
@[simp] theorem catch_nx (e : Str → Bool) (c : Str) (i : Nat → Bool) (h : Str → Option D) (σ : St) : catchS e c i h (.nx σ) = pure (.nx σ) := of_eq_true (eq_self _)
@[simp] theorem catchM_ret (e : Str → Bool) (l : List ClauseS) (d : D) (o : Bool) : catchM e l (.ret d o) = pure (.ret d o) := of_eq_true (eq_self _)
@[simp] theorem catchM_nx (e : Str → Bool) (l : List ClauseS) (σ : St) : catchM e l (.nx σ) = pure (.nx σ) := of_eq_true (eq_self _)
theorem catchM_rz {e : Str → Bool} {cn : Str} {fs : List (Str × D)} {σ : St} {l : List ClauseS} (h1 : e cn = true) (h2 : (l.all fun p => p.2.1 σ.length) = true) : catchM e l (.rz ⟨cn, fs⟩ σ) = clausesS ⟨cn, fs⟩ σ l := by
  unfold catchM
  simp only
  rw [if_pos ⟨h1, h2⟩]
theorem clauses_hit {x : Exc} {σ : St} {c : Str} {i : Nat → Bool} {h : Exc → Option D} {r : List ClauseS} (d : D) (h3 : x.cls = c) (h4 : h x = some d) : clausesS x σ ((c, i, h) :: r) = pure (.ret d false) := by
  rw [clausesS, if_pos h3, h4]
theorem clauses_miss {x : Exc} {σ : St} {c : Str} {i : Nat → Bool} {h : Exc → Option D} {r : List ClauseS} (h3 : x.cls ≠ c) : clausesS x σ ((c, i, h) :: r) = clausesS x σ r := by
  rw [clausesS, if_neg h3]
theorem catch_rz {e : Str → Bool} {c cn : Str} {fs : List (Str × D)} {i : Nat → Bool} {h : Str → Option D} {σ : St} (d : D) (h1 : e cn = true) (h2 : i σ.length = true) (h3 : cn = c) (h4 : h cn = some d) : catchS e c i h (.rz ⟨cn, fs⟩ σ) = pure (.ret d false) := by
  unfold catchS
  rw [catchM_rz h1 (by simp [h2]), clauses_hit d h3 h4]
@[simp] theorem eqD_bool (a b : Bool) : eqD (.bool a) (.bool b) = pure (a == b) := by
  rw [eqD_def (by simp) (by simp)]
  simp [PyData.eqv]
@[simp] theorem forL_nil (bind : St → D → Option St) (b : St → M Flow) (σ : St) : forL bind b [] σ = pure (.nx σ) := of_eq_true (eq_self _)
theorem forL_cons {bind : St → D → Option St} {b : St → M Flow} {d : D} {ds : List D} {σ σ1 σ2 : St} (h : bind σ d = some σ1) (h2 : b σ1 = pure (.nx σ2)) : forL bind b (d :: ds) σ = forL bind b ds σ2 := by
  rw [forL.eq_def]
  simp only [h, h2, pure_bd]
theorem forL_ds {bind : St → D → Option St} {b : St → M Flow} (xs : List D) (I : Nat → St → DS → Prop)
    (H : ∀ k x σ s, xs[k]? = some x → I k σ s → ∃ σ1, bind σ x = some σ1 ∧ (b σ1 s).sat (NC (I (k + 1)))) {σ : St} {s : DS} (h0 : I 0 σ s) :
    (forL bind b xs σ s).sat (NX (I xs.length)) := by
  have := forL_at id (bind := bind) (b := b) xs I H h0
  rwa [List.map_id] at this
@[simp] theorem getT_zero (d : D) (ds : List D) : getD' (.tuple (d :: ds)) (.int 0) = pure d := getT_nat (i := 0) rfl
@[simp] theorem getT_one (d e : D) (ds : List D) : getD' (.tuple (d :: e :: ds)) (.int 1) = pure e := getT_nat (i := 1) rfl
@[simp] theorem getL_zero (d : D) (ds : List D) : getD' (.list (d :: ds)) (.int 0) = pure d := getL_nat (i := 0) rfl
@[simp] theorem getL_one (d e : D) (ds : List D) : getD' (.list (d :: e :: ds)) (.int 1) = pure e := getL_nat (i := 1) rfl
@[simp] theorem revS_list (ds : List D) : revS (pure (.list ds)) = pure (.list ds.reverse) := of_eq_true (eq_self _)
@[simp] theorem sParN_def (σ : St) (ns : List Bool) (ms : List (M D)) (is : List Nat) : sParN σ ns ms is = stE (evsS ms) σ fun ds => nx1 (setPar ns σ is ds) := of_eq_true (eq_self _)
@[simp] theorem setPar_tf (σ : St) (i j : Nat) (d : D) (n : Int) : setPar [true, false] σ [i, j] [d, .int n] = some ((σ.set i (some (d, true))).set j (some (.int n, false))) := of_eq_true (eq_self _)
@[simp] theorem setPar_ft (σ : St) (i j : Nat) (d : D) (n : Int) : setPar [false, true] σ [i, j] [.int n, d] = some ((σ.set i (some (.int n, false))).set j (some (d, true))) := of_eq_true (eq_self _)
@[simp] theorem setPar_ff2 (σ : St) (is : List Nat) (ds : List D) : setPar [false, false] σ is ds = setAll σ is ds := of_eq_true (eq_self _)
@[simp] theorem setPar_f3 (a b c : Bool) (σ : St) (is : List Nat) (ds : List D) : setPar [a, b, c] σ is ds = setAll σ is ds := by
  cases a <;> cases b <;> simp [setPar]
@[simp] theorem augI_add (a b : Int) : augI .Add a b = some (a + b) := of_eq_true (eq_self _)
@[simp] theorem augI_sub (a b : Int) : augI .Sub a b = some (a - b) := of_eq_true (eq_self _)
theorem sAug_int {σ : St} {i : Nat} {op : Operator} {a b c : Int} {o : Bool} (h : σ[i]? = some (some (.int a, o))) (h2 : augI op a b = some c) : sAug σ i op (pure (.int b)) = pure (.nx (σ.set i (some (.int c, false)))) := by
  unfold sAug
  rw [h]
  simp only [stE_pure, h2, nx1_some]
theorem sApp_own {σ : St} {l : Nat} {ds : List D} {d : D} (h : σ[l]? = some (some (.list ds, true))) (hl : ds.length < sline) : sApp σ l (pure d) = pure (.nx (σ.set l (some (.list (ds ++ [d]), true)))) := by
  unfold sApp
  rw [ownI_some σ l ds h]
  simp only [stE_pure]
  rw [if_pos hl]
/-- a loop that gives back at the first item that fits -/
theorem forL_find {α : Type} {enc : α → D} {bind : St → D → Option St} {b : St → M Flow} (p : α → Bool) (r : α → D × Bool) (st : Sl → St) (hb : ∀ v x, bind (st v) (enc x) = some (st (some (enc x, false)))) : ∀ (xs : List α)
    (_ : ∀ x ∈ xs, b (st (some (enc x, false))) = if p x = true then pure (.ret (r x).1 (r x).2) else pure (.nx (st (some (enc x, false))))) (v : Sl),
    ∃ v', forL bind b (xs.map enc) (st v) = pure (match xs.find? p with | some x => .ret (r x).1 (r x).2 | none => .nx (st v'))
  | [], _, v => ⟨v, rfl⟩
  | x :: xs, H, v => by
    have h1 := H x (List.mem_cons_self ..)
    obtain ⟨v', e⟩ := forL_find p r st hb xs (fun y hy => H y (List.mem_cons_of_mem _ hy)) (some (enc x, false))
    rw [List.map_cons]
    unfold forL
    rw [hb]
    simp only
    rw [h1]
    cases hp : p x with
    | true =>
      refine ⟨none, ?_⟩
      rw [if_pos rfl, List.find?_cons_of_pos hp]
      rfl
    | false =>
      refine ⟨v', ?_⟩
      rw [if_neg (by simp), List.find?_cons_of_neg (by simp [hp]), pure_bd]
      exact e
/-- a loop that carries a value -/
theorem forL_fold {α β : Type} {enc : α → D} {bind : St → D → Option St} {b : St → M Flow} (f : β → α → β) (st : β → Sl → St) (hb : ∀ a v x, bind (st a v) (enc x) = some (st a (some (enc x, false)))) (P : Nat → β → Prop) : ∀ (xs : List α) (k : Nat)
    (_ : ∀ (i : Nat) x a, xs[i]? = some x → P (k + i) a → b (st a (some (enc x, false))) = pure (.nx (st (f a x) (some (enc x, false)))) ∧ P (k + i + 1) (f a x)) (a : β) (_ : P k a) (v : Sl),
    ∃ v', forL bind b (xs.map enc) (st a v) = pure (.nx (st (xs.foldl f a) v')) ∧ P (k + xs.length) (xs.foldl f a)
  | [], k, _, a, h, v => ⟨v, rfl, h⟩
  | x :: xs, k, H, a, h, v => by
    obtain ⟨h1, h2⟩ := H 0 x a rfl h
    obtain ⟨v', e, h3⟩ := forL_fold f st hb P xs (k + 1) (fun i y c hy hc => by
      have := H (i + 1) y c (by simpa using hy) (by rwa [show k + (i + 1) = k + 1 + i from by omega])
      rwa [show k + (i + 1) + 1 = k + 1 + i + 1 from by omega] at this) (f a x) h2 (some (enc x, false))
    refine ⟨v', ?_, by rw [List.foldl_cons, List.length_cons, show k + (xs.length + 1) = k + 1 + xs.length from by omega]; exact h3⟩
    rw [List.map_cons]
    unfold forL
    rw [hb]
    simp only
    rw [h1, pure_bd]
    exact e
@[simp] theorem bi_sum_dropL (k : Nat) (xs : List Int) : bi "sum" [.list ((xs.map PyData.int).drop k)] = pure (.int (xs.drop k).sum) := by rw [← List.map_drop]; exact bi_sum_ints _
@[simp] theorem bi_sum_dropT (k : Nat) (xs : List Int) : bi "sum" [.tuple ((xs.map PyData.int).drop k)] = pure (.int (xs.drop k).sum) := by rw [← List.map_drop]; exact bi_sum_tup _
@[simp] theorem bi_sum_takeL (k : Nat) (xs : List Int) : bi "sum" [.list ((xs.map PyData.int).take k)] = pure (.int (xs.take k).sum) := by rw [← List.map_take]; exact bi_sum_ints _
@[simp] theorem bi_sum_takeT (k : Nat) (xs : List Int) : bi "sum" [.tuple ((xs.map PyData.int).take k)] = pure (.int (xs.take k).sum) := by rw [← List.map_take]; exact bi_sum_tup _
theorem rangeN {n : Nat} (h : n ≤ 100000) : iterC "range" [.int (n : Int)] = pure ((List.range n).map fun (i : Nat) => PyData.int (i : Int)) := by
  rw [iterC_range1 (in62_nat (by omega)), rangeD_eq, Int.toNat_natCast]
  simp
@[simp] theorem is_nn : cmpop .Is .none .none = pure true := of_eq_true (eq_self _)
@[simp] theorem is_in (i : Int) : cmpop .Is (.int i) .none = pure false := of_eq_true (eq_self _)
@[simp] theorem is_tn (ds : List D) : cmpop .Is (.tuple ds) .none = pure false := of_eq_true (eq_self _)
@[simp] theorem isn_nn : cmpop .IsNot .none .none = pure false := of_eq_true (eq_self _)
@[simp] theorem isn_in (i : Int) : cmpop .IsNot (.int i) .none = pure true := of_eq_true (eq_self _)
@[simp] theorem isn_tn (ds : List D) : cmpop .IsNot (.tuple ds) .none = pure true := of_eq_true (eq_self _)
@[simp] theorem is_bb (a b : Bool) : cmpop .Is (.bool a) (.bool b) = pure (a == b) := of_eq_true (eq_self _)
@[simp] theorem isn_bb (a b : Bool) : cmpop .IsNot (.bool a) (.bool b) = pure (!(a == b)) := of_eq_true (eq_self _)
end Py

set_option Elab.async false
set_option linter.all false
set_option maxRecDepth 100000
namespace Py
open PySem
/-- the trailing noughts go -/
theorem strip_loop {c : St → M D} {b : St → M Flow} (st : List Int → St) (hc0 : c (st []) = pure (.bool false)) (hc : ∀ ys z, c (st (ys ++ [z])) = pure (.bool (decide (z = 0)))) (hb : ∀ ys z, b (st (ys ++ [z])) = pure (.nx (st ys))) : ∀ (n : Nat) (row : List Int), row.length < n →
    ∃ ys m, row = ys ++ List.replicate m 0 ∧ (ys = [] ∨ ∃ zs z, ys = zs ++ [z] ∧ z ≠ 0) ∧ sWhile c b n (st row) = pure (.nx (st ys))
  | 0, row, h => absurd h (Nat.not_lt_zero _)
  | n + 1, row, h => by
    by_cases he : row = []
    · subst he
      refine ⟨[], 0, rfl, .inl rfl, ?_⟩
      unfold sWhile whileL
      rw [hc0]
      simp
    · obtain ⟨ys, z, rfl⟩ := snoc_of (xs := row) (by cases row with | nil => exact absurd rfl he | cons => simp)
      by_cases hz : z = 0
      · subst hz
        obtain ⟨zs, m, e, h2, h3⟩ := strip_loop st hc0 hc hb n ys (by simp at h; omega)
        refine ⟨zs, m + 1, ?_, h2, ?_⟩
        · rw [e, List.append_assoc]
          congr 1
          exact (List.replicate_succ' ..).symm
        · unfold sWhile at h3 ⊢
          unfold whileL
          rw [hc]
          simp only [tstS_bool, stE_pure, decide_true, if_true]
          rw [hb, pure_bd]
          exact h3
      · refine ⟨ys ++ [z], 0, by simp, .inr ⟨ys, z, rfl, hz⟩, ?_⟩
        unfold sWhile whileL
        rw [hc]
        simp [hz]
theorem msr_list (σ : St) (i : Nat) (ds : List D) (o : Bool) (h : σ[i]? = some (some (.list ds, o))) : ds.length ≤ msr σ := by
  unfold msr
  induction σ generalizing i with
  | nil => simp at h
  | cons x σ ih =>
    cases i with
    | zero => simp at h; subst h; simp
    | succ i =>
      have := ih i (by simpa using h)
      simp only [List.map_cons, List.sum_cons]
      omega
theorem eqD_listnil (xs : List Int) : eqD (.list (xs.map .int)) (.list []) = pure (decide (xs = [])) := eqD_lis xs []
theorem set_mapI (row : List Int) (i : Nat) (v : Int) : (row.map PyData.int).set i (.int v) = (row.set i v).map .int := by rw [List.map_set]
theorem ext_ix {xs ys : List Int} (hl : xs.length = ys.length) (h : ∀ k : Nat, k < xs.length → ix xs k = ix ys k) : xs = ys := by
  apply List.ext_getElem hl
  intro i h1 h2
  have := h i h1
  unfold ix at this
  simpa [h1, h2] using this
theorem forL_foldG {α β V : Type} {enc : α → D} {bind : St → D → Option St} {b : St → M Flow} (f : β → α → β) (st : β → V → St) (I : β → Prop) : ∀ (xs : List α)
    (_ : ∀ x ∈ xs, ∀ a v, I a → ∃ σ1, bind (st a v) (enc x) = some σ1 ∧ (∃ v', b σ1 = pure (.nx (st (f a x) v'))) ∧ I (f a x)) (a : β) (_ : I a) (v : V),
    ∃ v', forL bind b (xs.map enc) (st a v) = pure (.nx (st (xs.foldl f a) v')) ∧ I (xs.foldl f a)
  | [], _, a, h, v => ⟨v, rfl, h⟩
  | x :: xs, H, a, h, v => by
    obtain ⟨σ1, h1, ⟨v1, h2⟩, h3⟩ := H x (List.mem_cons_self ..) a v h
    obtain ⟨v', e, h4⟩ := forL_foldG f st I xs (fun y hy => H y (List.mem_cons_of_mem _ hy)) (f a x) h3 v1
    exact ⟨v', by rw [List.map_cons, forL_cons h1 h2, e]; rfl, h4⟩
theorem forL_foldP {α β V : Type} {enc : α → D} {bind : St → D → Option St} {b : St → M Flow} (f : β → α → β) (st : β → V → St) (I : List α → β → Prop) : ∀ (xs : List α)
    (_ : ∀ x ys, x ∈ xs → ∀ a v, I (x :: ys) a → ∃ σ1, bind (st a v) (enc x) = some σ1 ∧ (∃ v', b σ1 = pure (.nx (st (f a x) v'))) ∧ I ys (f a x)) (a : β) (_ : I xs a) (v : V),
    ∃ v', forL bind b (xs.map enc) (st a v) = pure (.nx (st (xs.foldl f a) v'))
  | [], _, a, h, v => ⟨v, rfl⟩
  | x :: xs, H, a, h, v => by
    obtain ⟨σ1, h1, ⟨v1, h2⟩, h3⟩ := H x xs (List.mem_cons_self ..) a v h
    obtain ⟨v', e⟩ := forL_foldP f st I xs (fun y ys hy => H y ys (List.mem_cons_of_mem _ hy)) (f a x) h3 v1
    exact ⟨v', by rw [List.map_cons, forL_cons h1 h2, e]; rfl⟩
/-- v is added at i -/
def addAt (xs : List Int) (i : Nat) (v : Int) : List Int := xs.set i (ix xs i + v)
@[simp] theorem addAt_len (xs : List Int) (i : Nat) (v : Int) : (addAt xs i v).length = xs.length := by simp [addAt]
theorem ix_addAt {r : List Int} {i : Nat} (h : i < r.length) (v : Int) (k : Nat) : ix (addAt r i v) k = ix r k + if k = i then v else 0 := by
  unfold addAt
  by_cases hk : k = i
  · subst hk
    simp [ix, h]
  · rw [if_neg hk]
    simp only [ix, Int.toNat_natCast, List.getD_eq_getElem?_getD]
    rw [List.getElem?_set_ne (by omega)]
    omega
/-- l[i] = v -/
theorem sSub_own {σ : St} {l i : Nat} {xs : List Int} {v : Int} (h : σ[l]? = some (some (.list (xs.map .int), true))) (hi : i < xs.length) :
    sSub σ l (pure (.int (i : Int))) (pure (.int v)) = pure (.nx (σ.set l (some (.list ((xs.set i v).map .int), true)))) := by
  have h1 : L2.ixN (xs.map PyData.int).length (i : Int) = some i := by
    rw [List.length_map]
    exact ixN_nat hi
  unfold sSub
  rw [ownI_some _ _ _ h]
  simp only [stE_pure, h1]
  simp [List.map_set]
theorem set_sum : ∀ (r : List Int) (i : Nat) (v : Int), i < r.length → (r.set i v).sum = r.sum - ix r i + v
  | [], i, v, h => by simp at h
  | x :: r, 0, v, h => by simp [ix]; omega
  | x :: r, i + 1, v, h => by
    have := set_sum r i v (by simpa using h)
    simp [ix] at this ⊢
    omega
theorem addAt_sum {r : List Int} {i : Nat} (h : i < r.length) (v : Int) : (addAt r i v).sum = r.sum + v := by
  unfold addAt
  rw [set_sum r i _ h]
  omega
theorem msr_int (σ : St) (i : Nat) (x : Int) (o : Bool) (h : σ[i]? = some (some (.int x, o))) : x.natAbs ≤ msr σ := by
  unfold msr
  induction σ generalizing i with
  | nil => simp at h
  | cons s σ ih =>
    cases i with
    | zero =>
      simp at h
      subst h
      simp
    | succ i =>
      have := ih i (by simpa using h)
      simp at this ⊢
      omega
/-- without the noughts at the end -/
def strp (xs : List Int) : List Int := (xs.reverse.dropWhile (· == 0)).reverse
theorem strp_snoc0 (xs : List Int) : strp (xs ++ [0]) = strp xs := by simp [strp]
theorem strp_snoc {xs : List Int} {z : Int} (h : z ≠ 0) : strp (xs ++ [z]) = xs ++ [z] := by simp [strp, h]
theorem strip_ne {c : St → M D} {b : St → M Flow} (st : List Int → St) (hc : ∀ ys z, c (st (ys ++ [z])) = pure (.bool (decide (z = 0)))) (hb : ∀ ys z, b (st (ys ++ [z])) = pure (.nx (st ys))) : ∀ (n : Nat) (row : List Int), row.length < n → (∃ x ∈ row, x ≠ 0) →
    sWhile c b n (st row) = pure (.nx (st (strp row)))
  | 0, row, h, _ => absurd h (Nat.not_lt_zero _)
  | n + 1, row, h, hx => by
    obtain ⟨ys, z, rfl⟩ := snoc_of (xs := row) (by cases row with | nil => obtain ⟨x, hx, _⟩ := hx; cases hx | cons => simp)
    unfold sWhile whileL
    rw [hc]
    by_cases hz : z = 0
    · subst hz
      have ih := strip_ne st hc hb n ys (by simp at h; omega) (by
        obtain ⟨x, hx, h0⟩ := hx
        rcases List.mem_append.mp hx with hx | hx
        · exact ⟨x, hx, h0⟩
        · simp at hx; exact absurd hx h0)
      rw [strp_snoc0]
      simp only [tstS_bool, stE_pure, decide_true, if_true]
      rw [hb, pure_bd]
      unfold sWhile at ih
      exact ih
    · rw [strp_snoc hz]
      simp [hz]
theorem strp_rep : ∀ (m : Nat) (xs : List Int), strp (xs ++ List.replicate m 0) = strp xs
  | 0, xs => by simp
  | m + 1, xs => by rw [List.replicate_succ', ← List.append_assoc, strp_snoc0, strp_rep m xs]
/-! sums over places -/
def sumR (n : Nat) (f : Nat → Int) : Int := ((List.range n).map f).sum
@[simp] theorem sumR_zero (f : Nat → Int) : sumR 0 f = 0 := rfl
theorem sumR_front (n : Nat) (f : Nat → Int) : sumR (n + 1) f = f 0 + sumR n (fun i => f (i + 1)) := by
  unfold sumR
  rw [List.range_succ_eq_map]
  simp [Function.comp_def]
theorem sumR_back (n : Nat) (f : Nat → Int) : sumR (n + 1) f = sumR n f + f n := by
  unfold sumR
  rw [List.range_succ]
  simp
theorem sumR_add (n : Nat) (f g : Nat → Int) : sumR n (fun i => f i + g i) = sumR n f + sumR n g := by
  induction n with
  | zero => rfl
  | succ n ih => rw [sumR_back, sumR_back, sumR_back, ih]; omega
theorem sumR_sub (n : Nat) (f g : Nat → Int) : sumR n (fun i => f i - g i) = sumR n f - sumR n g := by
  induction n with
  | zero => rfl
  | succ n ih => rw [sumR_back, sumR_back, sumR_back, ih]; omega
theorem sumR_congr {n : Nat} {f g : Nat → Int} (h : ∀ i, i < n → f i = g i) : sumR n f = sumR n g := by
  unfold sumR
  rw [List.map_congr_left fun i hi => h i (List.mem_range.mp hi)]
theorem sumR_mul (c : Int) (n : Nat) (f : Nat → Int) : sumR n (fun i => c * f i) = c * sumR n f := by
  induction n with
  | zero => simp
  | succ n ih => rw [sumR_back, sumR_back, ih, Int.mul_add]
theorem sumR_const0 (n : Nat) : sumR n (fun _ => 0) = 0 := by
  induction n with
  | zero => rfl
  | succ n ih => rw [sumR_back, ih]; rfl
theorem sum_ix : ∀ (xs : List Int), xs.sum = sumR xs.length (fun i => ix xs i)
  | [] => rfl
  | x :: xs => by
    rw [List.length_cons, sumR_front, List.sum_cons, sum_ix xs]
    rfl
theorem ix_cons_succ (x : Int) (xs : List Int) (i : Nat) : ix (x :: xs) ((i + 1 : Nat) : Int) = ix xs i := rfl
theorem ix_cons_zero (x : Int) (xs : List Int) : ix (x :: xs) ((0 : Nat) : Int) = x := rfl
theorem sumR_swap (n m : Nat) (f : Nat → Nat → Int) : sumR n (fun i => sumR m (fun j => f i j)) = sumR m (fun j => sumR n (fun i => f i j)) := by
  induction n with
  | zero => simp [sumR_const0]
  | succ n ih =>
    rw [sumR_back, ih, ← sumR_add]
    exact sumR_congr fun j _ => (sumR_back n (fun i => f i j)).symm
theorem ix_drop (xs : List Int) (k i : Nat) : ix (xs.drop k) i = ix xs ((k + i : Nat) : Int) := by
  unfold ix
  simp only [Int.toNat_natCast, List.getD_eq_getElem?_getD, List.getElem?_drop]
theorem ix_take {xs : List Int} {k i : Nat} (h : i < k) : ix (xs.take k) i = ix xs i := by
  unfold ix
  simp [List.getElem?_take, h]
theorem getL_N {xs : List Int} {i : Nat} (h : i < xs.length) : getD' (.list (xs.map .int)) (.int (i : Int)) = pure (.int (ix xs i)) := getL_ix (by omega) (by omega)
theorem ixB {n : Nat} {a : List Int} (h : ∀ e ∈ a, Bt n e) {i : Nat} (hi : i < a.length) : Bt n (ix a i) := h _ (ix_mem (by omega) (by omega))
/-- a loop that gives back at the first item that fits -/
theorem forL_findG {α V : Type} {enc : α → D} {bind : St → D → Option St} {b : St → M Flow} (p : α → Bool) (r : α → D × Bool) (st : V → St) : ∀ (xs : List α)
    (_ : ∀ x ∈ xs, ∀ v, ∃ σ1, bind (st v) (enc x) = some σ1 ∧ (p x = true → b σ1 = pure (.ret (r x).1 (r x).2)) ∧ (p x = false → ∃ v', b σ1 = pure (.nx (st v')))) (v : V),
    (∃ x, xs.find? p = some x ∧ forL bind b (xs.map enc) (st v) = pure (.ret (r x).1 (r x).2)) ∨ (xs.find? p = none ∧ ∃ v', forL bind b (xs.map enc) (st v) = pure (.nx (st v')))
  | [], _, v => .inr ⟨rfl, v, rfl⟩
  | x :: xs, H, v => by
    obtain ⟨σ1, h1, h2, h3⟩ := H x (List.mem_cons_self ..) v
    cases hp : p x with
    | true =>
      refine .inl ⟨x, by rw [List.find?_cons_of_pos hp], ?_⟩
      rw [List.map_cons]
      unfold forL
      rw [h1]
      simp only
      rw [h2 hp, pure_bd]
    | false =>
      obtain ⟨v', h3⟩ := h3 hp
      have ih := forL_findG p r st xs (fun y hy => H y (List.mem_cons_of_mem _ hy)) v'
      rw [List.map_cons, forL_cons h1 h3, List.find?_cons_of_neg (by simp [hp])]
      exact ih
theorem foldl_sumR (g : Nat → Int) : ∀ (n : Nat) (a : Int), (List.range n).foldl (fun a k => a + g k) a = a + sumR n g
  | 0, a => by simp
  | n + 1, a => by
    rw [List.range_succ, List.foldl_append, foldl_sumR g n a, sumR_back]
    simp
    omega
theorem enum_R (xs : List Int) : enumD 0 (xs.map PyData.int) = (List.range xs.length).map fun (i : Nat) => PyData.tuple [.int (i : Int), .int (ix xs i)] := by
  have key : ∀ (xs : List Int) (k : Int), enumD k (xs.map PyData.int) = (List.range xs.length).map fun (i : Nat) => PyData.tuple [.int (k + (i : Int)), .int (ix xs i)] := by
    intro xs
    induction xs with
    | nil => intro k; rfl
    | cons x xs ih =>
      intro k
      rw [List.map_cons, enumD, ih (k + 1), List.length_cons, List.range_succ_eq_map]
      simp [ix]
      intro i hi
      omega
  rw [key xs 0]
  simp
theorem filter_sorted (p : Nat → Bool) (n : Nat) : ((List.range n).filter p).Pairwise (· < ·) := List.Pairwise.filter p List.pairwise_lt_range
theorem minI_head : ∀ (l : List Nat), l.Pairwise (· < ·) → l ≠ [] → minI (l.map fun (k : Nat) => (k : Int)) = (l.headD 0 : Nat)
  | [], _, h => absurd rfl h
  | k :: l, hp, _ => by
    have key : ∀ (l : List Nat) (k : Nat), (∀ j ∈ l, k < j) → (l.map fun (k : Nat) => (k : Int)).foldl min (k : Int) = k := by
      intro l
      induction l with
      | nil => intro k _; rfl
      | cons j l ih =>
        intro k h
        have hj := h j (List.mem_cons_self ..)
        rw [List.map_cons, List.foldl_cons, show min (k : Int) (j : Int) = k by omega]
        exact ih k fun i hi => h i (List.mem_cons_of_mem _ hi)
    exact key l k (List.pairwise_cons.mp hp).1
theorem bi_minN {l : List Nat} (hs : l.Pairwise (· < ·)) (h : l ≠ []) : bi "min" [.list (l.map fun (k : Nat) => PyData.int (k : Int))] = pure (.int (l.headD 0 : Nat)) := by
  have hi := intsOf_map' (fun (k : Nat) => (k : Int)) l
  have hm := minI_head l hs h
  cases l with
  | nil => exact absurd rfl h
  | cons y ys => exact (show bi "min" [.list ((y :: ys).map fun (k : Nat) => PyData.int (k : Int))] = (match intsOf ((y :: ys).map fun (k : Nat) => PyData.int (k : Int)) with
      | some (n :: ns) => pure (.int (minI (n :: ns)))
      | _ => fail) from rfl).trans (by rw [hi, ← hm]; rfl)
theorem get_headN {l : List Nat} (h : l ≠ []) : getD' (.list (l.map fun (k : Nat) => PyData.int (k : Int))) (.int 0) = pure (.int (l.headD 0 : Nat)) := by
  cases l with
  | nil => exact absurd rfl h
  | cons y ys => simp
theorem get_lastN {l : List Nat} (h : l ≠ []) : getD' (.list (l.map fun (k : Nat) => PyData.int (k : Int))) (.int (-1)) = pure (.int (l.getLastD 0 : Nat)) := by
  refine getL_last ?_
  rw [List.getLast?_map]
  obtain ⟨ys, z, rfl⟩ := snoc_of (by cases l with | nil => exact absurd rfl h | cons => simp : 1 ≤ l.length)
  simp
theorem compS_items (items : M (List D)) (b : D → Option St) (f : St → M Bool) (g : St → M D) : compS items b f g = (items >>= fun ds => compS (pure ds) b f g) := rfl
theorem getT_N {xs : List Int} {i : Nat} (h : i < xs.length) : getD' (.tuple (xs.map .int)) (.int (i : Int)) = pure (.int (ix xs i)) := getT_ix (by omega) (by omega)
theorem sSub_add {σ : St} {l i : Nat} {xs : List Int} {v : Int} (h : σ[l]? = some (some (.list (xs.map .int), true))) (hi : i < xs.length) :
    sSub σ l (pure (.int (i : Int))) (pure (.int (ix xs i + v))) = pure (.nx (σ.set l (some (.list ((addAt xs i v).map .int), true)))) := sSub_own h hi
theorem sSub_sub {σ : St} {l i : Nat} {xs : List Int} {v : Int} (h : σ[l]? = some (some (.list (xs.map .int), true))) (hi : i < xs.length) :
    sSub σ l (pure (.int (i : Int))) (pure (.int (ix xs i - v))) = pure (.nx (σ.set l (some (.list ((addAt xs i (-v)).map .int), true)))) := by
  rw [Int.sub_eq_add_neg]
  exact sSub_add h hi
theorem strp_pre (xs : List Int) : ∃ m, xs = strp xs ++ List.replicate m 0 := by
  suffices h : ∀ ys : List Int, ∃ m, ys = List.replicate m 0 ++ ys.dropWhile (· == 0) by
    obtain ⟨m, hm⟩ := h xs.reverse
    refine ⟨m, ?_⟩
    have := congrArg List.reverse hm
    rw [List.reverse_reverse, List.reverse_append, List.reverse_replicate] at this
    exact this
  intro ys
  induction ys with
  | nil => exact ⟨0, rfl⟩
  | cons y ys ih =>
    obtain ⟨m, hm⟩ := ih
    by_cases h : y = 0
    · subst h
      exact ⟨m + 1, by rw [List.dropWhile_cons_of_pos (by simp), List.replicate_succ, List.cons_append, ← hm]⟩
    · exact ⟨0, by rw [List.dropWhile_cons_of_neg (by simpa using h)]; rfl⟩
theorem strp_mem {xs : List Int} {x : Int} (h : x ∈ strp xs) : x ∈ xs := by
  obtain ⟨m, hm⟩ := strp_pre xs
  rw [hm]
  exact List.mem_append_left _ h
theorem mem_strp {xs : List Int} {x : Int} (h : x ∈ xs) (h0 : x ≠ 0) : x ∈ strp xs := by
  obtain ⟨m, hm⟩ := strp_pre xs
  rw [hm] at h
  rcases List.mem_append.mp h with h | h
  · exact h
  · exact absurd (List.eq_of_mem_replicate h) h0
theorem strp_last {xs ys : List Int} {z : Int} (h : strp xs = ys ++ [z]) : z ≠ 0 := by
  have h2 : xs.reverse.dropWhile (· == 0) = z :: ys.reverse := by
    have := congrArg List.reverse h
    unfold strp at this
    rw [List.reverse_reverse] at this
    rw [this]
    simp
  intro e
  have := List.head?_dropWhile_not (fun x : Int => x == 0) xs.reverse
  rw [h2] at this
  simp [e] at this
@[simp] theorem fl_id (r : Res Flow) : Res.fl r (fun σ => pure (Flow.nx σ)) = r := by
  cases r with
  | ok f s => cases f <;> rfl
  | exc => rfl
  | fail => rfl
theorem comp2S_map {α β : Type} {items : M (List D)} {bind : D → Option St} {it : St → M (List D)} {vs : List Nat} {bind2 : St → D → Option St} {g : St → M D} (xs : List α) (enc : α → D) (ys : α → List β) (enc2 : α → β → D) (h : α → β → D)
    (hi : items = pure (xs.map enc)) (hl : (xs.flatMap fun x => (ys x).map (h x)).length ≤ sline)
    (H : ∀ x ∈ xs, ∃ σ, bind (enc x) = some σ ∧ it σ = pure ((ys x).map (enc2 x)) ∧ ∀ y ∈ ys x, ∃ σ2, bind2 (wipe σ vs) (enc2 x y) = some σ2 ∧ g σ2 = pure (h x y)) :
    comp2S items bind (fun _ => pure true) it vs bind2 (fun _ => pure true) g = pure (.list (xs.flatMap fun x => (ys x).map (h x))) := by
  have key : ∀ xs : List α, (∀ x ∈ xs, ∃ σ, bind (enc x) = some σ ∧ it σ = pure ((ys x).map (enc2 x)) ∧ ∀ y ∈ ys x, ∃ σ2, bind2 (wipe σ vs) (enc2 x y) = some σ2 ∧ g σ2 = pure (h x y)) →
      compL2 bind (fun _ => pure true) it vs bind2 (fun _ => pure true) g (xs.map enc) = pure (xs.flatMap fun x => (ys x).map (h x)) := by
    intro xs
    induction xs with
    | nil => intro _; rfl
    | cons x xs ih =>
      intro H
      obtain ⟨σ, h1, h2, h3⟩ := H x (List.mem_cons_self ..)
      have e := compL_map (bind := fun e => bind2 (wipe σ vs) e) (f := fun _ => pure true) (g := g) (enc2 x) (h x) (fun _ => true) (ys x) fun y hy => by
        obtain ⟨σ2, k1, k2⟩ := h3 y hy
        exact ⟨σ2, k1, rfl, fun _ => k2⟩
      rw [List.filter_eq_self.mpr fun _ _ => rfl] at e
      rw [List.map_cons]
      unfold compL2
      rw [h1]
      show ((pure σ : M St) >>= _) = _
      rw [pure_bd, pure_bd, if_pos rfl, h2, pure_bd, e, pure_bd, ih fun y hy => H y (List.mem_cons_of_mem _ hy), pure_bd, List.flatMap_cons]
  unfold comp2S
  rw [hi, pure_bd, key xs H, quiet_pure, pure_bd, if_pos hl]
theorem flat_len {α : Type} (f : Nat → List α) (m : Nat) : ∀ l : List Nat, (∀ i ∈ l, (f i).length ≤ m) → (l.flatMap f).length ≤ l.length * m
  | [], _ => by simp
  | i :: l, h => by
    have := flat_len f m l fun j hj => h j (List.mem_cons_of_mem _ hj)
    have := h i (List.mem_cons_self ..)
    rw [List.flatMap_cons, List.length_append, List.length_cons, Nat.add_mul]
    omega
end Py

set_option Elab.async false
set_option linter.all false
set_option maxRecDepth 100000
namespace Py
open PySem
def S_is_whole (call : Str → List D → M D) (w : Nat) : List D → M D := runS ⟨false, false⟩ 1 1 fun σ =>
  thenF (sRet (frz σ [0]) (andS [(isiS (rd (frz σ [0]) 0) ("int" : Str)), (notS (isiS (rd (frz σ [0]) 0) ("bool" : Str)))]) false) fun σ =>
  sEnd σ

def S_common_c0 (call : Str → List D → M D) (w : Nat) (σ : St) : M D :=
  (cmp1 (rd σ 1) (pure (.int 0)) .NotEq)
def S_common_b1 (call : Str → List D → M D) (w : Nat) (σ : St) : M Flow :=
  thenF (sParN (frz σ [1]) [false, false] [(rdV (frz σ [1]) 1), (binS .Mod (rd (frz σ [1]) 0) (rd (frz σ [1]) 1))] [0, 1]) fun σ =>
  sEnd σ
def S_common (call : Str → List D → M D) (w : Nat) : List D → M D := runS ⟨false, false⟩ 2 2 fun σ =>
  thenF (sParN σ [false, false] [(biS ("abs" : Str) [(rd σ 0)]), (biS ("abs" : Str) [(rd σ 1)])] [0, 1]) fun σ =>
  thenF (sWhile (S_common_c0 call w) (S_common_b1 call w) (w + msr σ) σ) fun σ =>
  thenF (sRetN σ 0) fun σ =>
  sEnd σ

def S_lowest (call : Str → List D → M D) (w : Nat) : List D → M D := runS ⟨false, false⟩ 2 3 fun σ =>
  thenF (sAsg (frz σ [0, 1]) (callS call ("common" : Str) [(rdV (frz σ [0, 1]) 0), (rdV (frz σ [0, 1]) 1)]) 2 false) fun σ =>
  thenF (sIf σ (cmp1 (rd σ 1) (pure (.int 0)) .Lt)
  (thenF (sAsg (frz σ [2]) (negS (rdV (frz σ [2]) 2)) 2 false) fun σ =>
    sEnd σ)
  (sEnd σ)) fun σ =>
  thenF (sRet (frz σ [0, 1, 2]) (tupS [(binS .FloorDiv (rd (frz σ [0, 1, 2]) 0) (rd (frz σ [0, 1, 2]) 2)), (binS .FloorDiv (rd (frz σ [0, 1, 2]) 1) (rd (frz σ [0, 1, 2]) 2))]) false) fun σ =>
  sEnd σ

def S_is_draw_e0 (call : Str → List D → M D) (w : Nat) (σ : St) : M D :=
  (andS [(callS call ("is_whole" : Str) [(rdV σ 1)]), (cmp2 (pure (.int 0)) (rd σ 1) (pure (.int 1000000)) .LtE .LtE)])
def S_is_draw (call : Str → List D → M D) (w : Nat) : List D → M D := runS ⟨false, false⟩ 1 2 fun σ =>
  thenF (sIf σ (orS [(notS (isiS (rd σ 0) ("tuple" : Str))), (notS (cmp2 (pure (.int 1)) (biS ("len" : Str) [(rd σ 0)]) (pure (.int 30)) .LtE .LtE))])
  (thenF (sRet (frz σ [0]) (pure (.bool false)) false) fun σ =>
    sEnd σ)
  (sEnd σ)) fun σ =>
  thenF (sRet (frz σ [0]) (andS [(biS ("all" : Str) [(compS (dataI (rd (frz σ [0]) 0)) (fun d => bindG (.one 1) (wipe (frz σ [0]) [1]) d) (fun _ => pure true) (S_is_draw_e0 call w))]), (cmp1 (ixS (rd (frz σ [0]) 0) (negS (pure (.int 1)))) (pure (.int 0)) .Gt)]) false) fun σ =>
  sEnd σ

def S_check_draw (call : Str → List D → M D) (w : Nat) : List D → M D := runS ⟨false, false⟩ 1 1 fun σ =>
  thenF (sIf σ (notS (callS call ("is_draw" : Str) [(rdV σ 0)]))
  (thenF (sRaise ("Malformed" : Str) σ) fun σ =>
    sEnd σ)
  (sEnd σ)) fun σ =>
  sEnd σ

def S__law_fraction_c0 (call : Str → List D → M D) (w : Nat) (σ : St) : M D :=
  (cmp1 (rd σ 3) (pure (.int 0)) .NotEq)
def S__law_fraction_b1 (call : Str → List D → M D) (w : Nat) (σ : St) : M Flow :=
  thenF (sParN (frz σ [3]) [false, false] [(rdV (frz σ [3]) 3), (binS .Mod (biS ("int" : Str) [(rd (frz σ [3]) 2)]) (rd (frz σ [3]) 3))] [2, 3]) fun σ =>
  sEnd σ
def S__law_fraction (call : Str → List D → M D) (w : Nat) : List D → M D := runS ⟨false, false⟩ 2 4 fun σ =>
  thenF (sParN σ [false, false] [(biS ("abs" : Str) [(rd σ 0)]), (biS ("abs" : Str) [(rd σ 1)])] [2, 3]) fun σ =>
  thenF (sWhile (S__law_fraction_c0 call w) (S__law_fraction_b1 call w) (w + msr σ) σ) fun σ =>
  thenF (sRet (frz σ [0, 1, 2, 3]) (ifeS (cmp1 (rd (frz σ [0, 1, 2, 3]) 1) (pure (.int 0)) .Gt) (tupS [(binS .FloorDiv (rd (frz σ [0, 1, 2, 3]) 0) (rd (frz σ [0, 1, 2, 3]) 2)), (binS .FloorDiv (rd (frz σ [0, 1, 2, 3]) 1) (rd (frz σ [0, 1, 2, 3]) 2))]) (tupS [(binS .FloorDiv (negS (rdV (frz σ [0, 1, 2, 3]) 0)) (rd (frz σ [0, 1, 2, 3]) 2)), (binS .FloorDiv (negS (rdV (frz σ [0, 1, 2, 3]) 1)) (rd (frz σ [0, 1, 2, 3]) 2))])) false) fun σ =>
  sEnd σ

def S__law_dice_b0 (call : Str → List D → M D) (w : Nat) (σ : St) : M Flow :=
  thenF (sApp σ 3 (ifeS (cmp1 (callF call ("_law_take" : Str) [(rd σ 0), (pure (.int 3))]) (pure (.int 0)) .Eq) (pure (.int 0)) (binS .Add (callF call ("_law_take" : Str) [(rd σ 0), (rd σ 2)]) (pure (.int 1))))) fun σ =>
  sEnd σ
def S__law_dice (call : Str → List D → M D) (w : Nat) : List D → M D := runS ⟨false, false⟩ 3 5 fun σ =>
  thenF (sAsg σ (lstS []) 3 true) fun σ =>
  thenF (sFor σ (iterS ("range" : Str) [(binS .Add (pure (.int 1)) (callF call ("_law_take" : Str) [(rd σ 0), (rd σ 1)]))]) (.one 4) (S__law_dice_b0 call w)) fun σ =>
  thenF (sIf σ (cmp1 (ixS (rd σ 3) (negS (pure (.int 1)))) (pure (.int 0)) .Eq)
  (thenF (sSub σ 3 (negS (pure (.int 1))) (binS .Add (pure (.int 1)) (callF call ("_law_take" : Str) [(rd σ 0), (rd σ 2)]))) fun σ =>
    sEnd σ)
  (sEnd σ)) fun σ =>
  thenF (sRet (frz σ [0, 1, 2, 3, 4]) (biS ("tuple" : Str) [(rd (frz σ [0, 1, 2, 3, 4]) 3)]) false) fun σ =>
  sEnd σ

def S__law_bad_dice (call : Str → List D → M D) (w : Nat) : List D → M D := runS ⟨false, false⟩ 2 3 fun σ =>
  thenF (sAsg (frz σ [1]) (lstS [(pure (.none)), (tupS []), (pure (.int 5)), (biS ("list" : Str) [(rd (frz σ [1]) 1)]), (binS .Add (rd (frz σ [1]) 1) (tupS [(pure (.int 0))])), (tupS [(pure (.int 0)), (pure (.int 0))]), (tupS [(pure (.int 0))]), (binS .Add (tupS [(negS (pure (.int 1)))]) (rd (frz σ [1]) 1)), (binS .Add (tupS [(pure (.bool true))]) (rd (frz σ [1]) 1)), (tupS [(pure (.int 1000001))]), (binS .Mult (tupS [(pure (.int 1))]) (pure (.int 31))), (binS .Add (slS (rd (frz σ [1]) 1) none (some (negS (pure (.int 1))))) (tupS [(pure (.none))])), (tupS [(pure (.str "1"))]), (tupS [(rdV (frz σ [1]) 1)])]) 2 true) fun σ =>
  thenF (sRet (frz σ [0, 1, 2]) (ixS (rd (frz σ [0, 1, 2]) 2) (callF call ("_law_take" : Str) [(rd (frz σ [0, 1, 2]) 0), (pure (.int 14))])) false) fun σ =>
  sEnd σ

/-! what the defs do -/
def isWh : D → Bool
  | .int _ => true
  | _ => false
def Sp_is_whole (f : List D → M D) : Prop := ∀ d, noD d = true → f [d] = pure (.bool (isWh d))
theorem s_is_whole {call : Str → List D → M D} {w : Nat} : Sp_is_whole (S_is_whole call w) := by
  intro d hd
  cases d with
  | dict => cases hd
  | _ => rfl
theorem gcd_loop {c : St → M D} {b : St → M Flow} (st : D → D → St) (hc : ∀ i j : Int, c (st (.int i) (.int j)) = pure (.bool (!decide (j = 0))))
    (hb : ∀ i j : Int, 0 < j → b (st (.int i) (.int j)) = pure (.nx (st (.int j) (.int (i % j))))) : ∀ (n : Nat) (x y : Nat), y < n → sWhile c b n (st (.int x) (.int y)) = pure (.nx (st (.int (Nat.gcd x y)) (.int 0)))
  | 0, x, y, h => absurd h (Nat.not_lt_zero _)
  | n + 1, x, y, h => by
    unfold sWhile whileL
    rw [hc]
    by_cases h0 : y = 0
    · subst h0
      simp
    · have ih := gcd_loop st hc hb n y (x % y) (by have := Nat.mod_lt x (Nat.pos_of_ne_zero h0); omega)
      have hg : Nat.gcd x y = Nat.gcd y (x % y) := by rw [Nat.gcd_comm x y, Nat.gcd_rec, Nat.gcd_comm]
      unfold sWhile at ih
      have e : ((y : Nat) : Int) ≠ 0 := by omega
      simp only [tstS_bool, stE_pure, e, decide_false, Bool.not_false, if_true]
      rw [hb _ _ (by omega), hg, ← ih]
      rfl
theorem absN (a : Int) : (if a < 0 then -a else a) = ((a.natAbs : Nat) : Int) := by split <;> omega
def Sp_common (f : List D → M D) : Prop := ∀ a b : Int, f [.int a, .int b] = pure (.int (Int.gcd a b))
theorem s_common {call : Str → List D → M D} {w : Nat} (hw : 1 ≤ w) : Sp_common (S_common call w) := by
  intro a b
  unfold S_common
  rw [runS_2]
  have hl := gcd_loop (c := S_common_c0 call w) (b := S_common_b1 call w) (fun x y => [some (x, false), some (y, false)]) (fun i j => by simp [S_common_c0]) (fun i j h => by simp [S_common_b1, binop_mod h]) (w + (a.natAbs + b.natAbs)) a.natAbs b.natAbs (by omega)
  have hm : msr [some (.int a.natAbs, false), some (.int b.natAbs, false)] = a.natAbs + b.natAbs := by simp [msr]
  simp [startN, biS, absN, hm, hl, sRetN, ownI, rdV]
  rfl
/-- a fraction in least terms -/
def frN (n d : Int) : Int := d.sign * (n / Int.gcd n d)
def frM (n d : Int) : Int := d.natAbs / Int.gcd n d
def frD (n d : Int) : D := .tuple [.int (frN n d), .int (frM n d)]
theorem gcd_pos {n d : Int} (h : d ≠ 0) : 0 < ((Int.gcd n d : Nat) : Int) := by
  have := Int.gcd_pos_of_ne_zero_right n h
  omega
theorem gcd_bt {n d : Int} {k : Nat} (h : d ≠ 0) (hb : Bt k d) : Bt k (Int.gcd n d : Nat) := by
  unfold Bt at *
  have : Int.gcd n d ≤ d.natAbs := Nat.le_of_dvd (by omega) (Int.gcd_dvd_natAbs_right n d)
  omega
theorem fdiv_neg_gcd {x g : Int} (hg : 0 < g) (hd : g ∣ x) : x.fdiv (-g) = -(x / g) := by
  obtain ⟨c, rfl⟩ := hd
  have h1 : g * c = (-g) * (-c) := by rw [Int.neg_mul_neg]
  rw [Int.mul_ediv_cancel_left _ (by omega)]
  rw [h1, Int.mul_fdiv_cancel_left _ (by omega)]
def Sp_lowest (f : List D → M D) : Prop := ∀ n d : Int, d ≠ 0 → Bt 8000 d → f [.int n, .int d] = pure (frD n d)
theorem s_lowest {call : Str → List D → M D} {w : Nat} (hc : Sp_common (call "common")) : Sp_lowest (S_lowest call w) := by
  intro n d h0 hb
  have hg := gcd_pos (n := n) h0
  have hgb := gcd_bt (n := n) h0 hb
  unfold S_lowest
  rw [runS_2]
  by_cases hd : d < 0
  · simp [startN, callS, hc n d, hd, tupS, bdivN (by omega : -((Int.gcd n d : Nat) : Int) < 0) hgb.neg, sline, frD, frN, frM]
    rw [fdiv_neg_gcd hg (Int.gcd_dvd_left n d), fdiv_neg_gcd hg (Int.gcd_dvd_right n d), Int.sign_eq_neg_one_of_neg hd]
    congr 4
    · omega
    · have : ((d.natAbs : Nat) : Int) = -d := by omega
      rw [this, Int.neg_ediv_of_dvd (Int.gcd_dvd_right n d)]
  · simp [startN, callS, hc n d, hd, tupS, bdiv hg hgb, sline, frD, frN, frM]
    rw [Int.sign_eq_one_of_pos (by omega)]
    have : ((d.natAbs : Nat) : Int) = d := by omega
    rw [this, Int.one_mul]
def Sp__law_fraction (f : List D → M D) : Prop := ∀ n d : Int, d ≠ 0 → Bt 8000 d → f [.int n, .int d] = pure (frD n d)
theorem s__law_fraction {call : Str → List D → M D} {w : Nat} (hw : 1 ≤ w) : Sp__law_fraction (S__law_fraction call w) := by
  intro n d h0 hb
  have hg := gcd_pos (n := n) h0
  have hgb := gcd_bt (n := n) h0 hb
  unfold S__law_fraction
  rw [runS_2]
  have hl := gcd_loop (c := S__law_fraction_c0 call w) (b := S__law_fraction_b1 call w) (fun x y => [some (.int n, false), some (.int d, false), some (x, false), some (y, false)]) (fun i j => by simp [S__law_fraction_c0]) (fun i j h => by simp [S__law_fraction_b1, binop_mod h, biS]) (w + (n.natAbs + (d.natAbs + (n.natAbs + d.natAbs)))) n.natAbs d.natAbs (by omega)
  have hm : msr [some (.int n, false), some (.int d, false), some (.int n.natAbs, false), some (.int d.natAbs, false)] = n.natAbs + (d.natAbs + (n.natAbs + d.natAbs)) := by simp [msr]
  have hgg : Nat.gcd n.natAbs d.natAbs = Int.gcd n d := rfl
  by_cases hd : 0 < d
  · simp [startN, biS, absN, hm, hl, hd, hgg, tupS, bdiv hg hgb, sline, frD, frN, frM]
    rw [Int.sign_eq_one_of_pos (by omega)]
    have : ((d.natAbs : Nat) : Int) = d := by omega
    rw [this, Int.one_mul]
  · simp [startN, biS, absN, hm, hl, hd, hgg, tupS, bdiv hg hgb, sline, frD, frN, frM]
    rw [Int.sign_eq_neg_one_of_neg (by omega)]
    congr 4
    · rw [Int.neg_ediv_of_dvd (Int.gcd_dvd_left n d)]
      omega
    · have : ((d.natAbs : Nat) : Int) = -d := by omega
      rw [this]
/-- is it a weight -/
def okW : D → Bool
  | .int i => decide (0 ≤ i) && decide (i ≤ 1000000)
  | _ => false
def lastPos (ds : List D) : Bool := match ds.getLast? with
  | some (.int i) => decide (0 < i)
  | _ => false
def isDraw : D → Bool
  | .tuple ds => (decide (1 ≤ ds.length) && decide (ds.length ≤ 30)) && (ds.all okW && lastPos ds)
  | _ => false
def Sp_is_draw (f : List D → M D) : Prop := ∀ d, nod d = true → f [d] = pure (.bool (isDraw d))
def isTD : D → Bool
  | .tuple _ => true
  | _ => false
@[simp] theorem isTD_tuple (ds : List D) : isTD (.tuple ds) = true := rfl
theorem isiS_tuple {d : D} (h : noD d = true) : isiS (pure d) "tuple" = pure (.bool (isTD d)) := by
  cases d with
  | dict => cases h
  | _ => rfl
theorem s_is_draw {call : Str → List D → M D} {w : Nat} (hc : Sp_is_whole (call "is_whole")) : Sp_is_draw (S_is_draw call w) := by
  intro d hd
  unfold S_is_draw
  rw [runS_1]
  have hi := isiS_tuple (nod_noD hd)
  cases d with
  | tuple ds =>
    simp only [startN, List.map_cons, List.map_nil, List.cons_append, List.nil_append, rd_zero, hi]
    by_cases hl : 1 ≤ ds.length ∧ ds.length ≤ 30
    · have h1 : (1 : Int) ≤ (ds.length : Int) := by omega
      have h2 : (ds.length : Int) ≤ 30 := by omega
      simp [biS, h1, h2]
      rw [compS_map ds id (fun d => .bool (okW d)) (by simp) (by unfold sline; omega) fun d hd' => ⟨_, rfl, by
        have hn := nods_mem (by simpa using hd) hd'
        simp [S_is_draw_e0, callS, hc d (nod_noD hn)]
        cases d <;> simp [isWh, okW, ite_pure, ite_dbool]⟩]
      by_cases ha : ds.all okW = true
      · obtain ⟨e, he⟩ : ∃ e, ds.getLast? = some e := by
          cases h : ds.getLast? with
          | some e => exact ⟨e, rfl⟩
          | none => rw [List.getLast?_eq_none_iff] at h; subst h; simp at hl
        have hw := List.all_eq_true.mp ha e (List.mem_of_getLast? he)
        cases e with
        | int i => simp [ha, getT_last he, isDraw, hl, lastPos, he]
        | _ => simp [okW] at hw
      · simp [ha, isDraw, hl]
    · have hf : (decide (1 ≤ ds.length) && decide (ds.length ≤ 30)) = false := by simp; omega
      simp only [isDraw, hf, Bool.false_and]
      by_cases h1 : (1 : Int) ≤ (ds.length : Int)
      · simp [biS, h1, (by omega : (30 : Int) < (ds.length : Int))]
      · simp [biS, h1]
  | _ => simp [startN, hi, isDraw, isTD]
def Sp_check_draw (f : List D → M D) : Prop := ∀ d, nod d = true → f [d] = if isDraw d = true then pure .none else throwX ⟨"Malformed", []⟩
theorem s_check_draw {call : Str → List D → M D} {w : Nat} (hc : Sp_is_draw (call "is_draw")) : Sp_check_draw (S_check_draw call w) := by
  intro d hd
  unfold S_check_draw
  rw [runS_1]
  cases h : isDraw d <;> simp [startN, callS, hc d hd, h]
/-- a drawn row of weights -/
structure Dice (n wt : Int) (xs : List Int) : Prop where
  one : 1 ≤ xs.length
  most : (xs.length : Int) ≤ n
  wt : ∀ x ∈ xs, 0 ≤ x ∧ x ≤ wt
  last : ∃ x, xs.getLast? = some x ∧ 0 < x
def Sp__law_dice (f : List D → M D) : Prop := ∀ (n wt : Int) (s : DS), OkS s → 1 ≤ n → n ≤ 1000 → 1 ≤ wt → wt ≤ 1000000 → (f [tok, .int n, .int wt] s).sat fun d s' => ∃ xs, d = tupD xs ∧ Dice n wt xs ∧ OkS s'
theorem s__law_dice {call : Str → List D → M D} {w : Nat} (ht : call "_law_take" = takeP) : Sp__law_dice (S__law_dice call w) := by
  intro n wt s hs n1 n2 w1 w2
  unfold S__law_dice
  rw [runS_3]
  have hn : 0 < n := by omega
  have hn' : n < 2 ^ 64 := by omega
  have hw : 0 < wt := by omega
  have hw' : wt < 2 ^ 64 := by omega
  have g0 := tv_lo (s := s) hn
  have g1 := tv_hi (s := s) hn
  have hr : in62 (1 + tv n s) = true := in62_of (by omega) (by omega)
  have lp := forL_at (fun (i : Nat) => PyData.int (0 + (i : Int))) (bind := bindG (.one 4)) (b := S__law_dice_b0 call w) (List.range (1 + tv n s).toNat)
    (fun k σ s => OkS s ∧ ∃ (xs : List Int) (kk : Sl), σ = [some (tok, false), some (.int n, false), some (.int wt, false), some (.list (xs.map .int), true), kk] ∧ xs.length = k ∧ ∀ x ∈ xs, 0 ≤ x ∧ x ≤ wt)
    (fun k x σ s hk ⟨hs, xs, kk, e1, e2, e3⟩ => by
      subst e1
      have hk' : xs.length < sline := by
        have := (List.getElem?_eq_some_iff.mp hk).1
        simp at this
        unfold sline
        omega
      refine ⟨_, rfl, ?_⟩
      by_cases h : tv 3 s = 0
      · simp [S__law_dice_b0, sApp, ownI, stE_at, ifeS, tstS, cmp1, binS, bd_at, take_callF ht hs, h, thenF_at, asBool, hk']
        refine ⟨OkS_ts hs, xs ++ [0], by simp, by simp [e2], fun x hx => ?_⟩
        rcases List.mem_append.mp hx with hx | hx
        · exact e3 x hx
        · simp at hx; omega
      · have g0 := tv_lo (s := ts 3 s) hw
        have g1 := tv_hi (s := ts 3 s) hw
        simp [S__law_dice_b0, sApp, ownI, stE_at, ifeS, tstS, cmp1, binS, bd_at, take_callF ht hs, take_callF ht (OkS_ts hs) hw hw', h, thenF_at, asBool, hk']
        refine ⟨OkS_ts (OkS_ts hs), xs ++ [tv wt (ts 3 s) + 1], by simp, by simp [e2], fun x hx => ?_⟩
        rcases List.mem_append.mp hx with hx | hx
        · exact e3 x hx
        · simp at hx; omega) (σ := [some (tok, false), some (.int n, false), some (.int wt, false), some (.list [], true), none]) (s := ts n s) ⟨OkS_ts hs, [], none, rfl, rfl, by simp⟩
  obtain ⟨fl, s', e, h⟩ := lp.ex
  cases fl with
  | nx σ' =>
    obtain ⟨hs', xs, kk, rfl, e2, e3⟩ := h
    have hx : xs.length = (1 + tv n s).toNat := by simpa using e2
    simp [startN, sline, bd_at, stE_at, thenF_at, quiet_at, ifeS, tstS, cmp1, cmp2, binS, ixS, slS, optS, biS, callS, lstS, tupS, iterS, evsS_cons, asBool, asInt, sFor, sAsg, sIf, sRet, sExp, sTup, negS, notS, andS, orS, take_callF ht hs hn hn', iterC_range1 hr, rangeD_eq] at e ⊢
    simp [e]
    obtain ⟨ys, z, rfl⟩ := snoc_of (by omega : 1 ≤ xs.length)
    simp at hx e3
    have hz := e3 z (.inr rfl)
    have hys : ∀ x ∈ ys, 0 ≤ x ∧ x ≤ wt := fun x h => e3 x (.inl h)
    simp
    by_cases h0 : z = 0
    · have g2 := tv_lo (s := s') hw
      have g3 := tv_hi (s := s') hw
      have hsub : L2.ixN (ys.length + 1) (-1) = some ys.length := ixN_neg1 (by omega)
      have hset : (List.map PyData.int ys ++ [PyData.int 0]).set ys.length (.int (1 + tv wt s')) = List.map PyData.int ys ++ [PyData.int (1 + tv wt s')] := by
        have := set_snoc (List.map PyData.int ys) (PyData.int 0) (.int (1 + tv wt s'))
        rwa [List.length_map] at this
      simp [h0, bd_at, stE_at, thenF_at, quiet_at, ifeS, tstS, cmp1, cmp2, binS, ixS, slS, optS, biS, callS, lstS, tupS, iterS, evsS_cons, asBool, asInt, sFor, sAsg, sIf, sRet, sExp, sTup, negS, notS, andS, orS, sSub, ownI, take_callF ht hs' hw hw', hsub, hset]
      refine ⟨ys ++ [1 + tv wt s'], by simp, ⟨by simp, by simp; omega, fun x h => ?_, ⟨1 + tv wt s', by simp, by omega⟩⟩, OkS_ts hs'⟩
      simp at h
      rcases h with h | h
      · exact hys x h
      · omega
    · simp [h0, bd_at, stE_at, thenF_at, quiet_at, ifeS, tstS, cmp1, cmp2, binS, ixS, slS, optS, biS, callS, lstS, tupS, iterS, evsS_cons, asBool, asInt, sFor, sAsg, sIf, sRet, sExp, sTup, negS, notS, andS, orS]
      refine ⟨ys ++ [z], by simp, ⟨by simp, by simp; omega, fun x h => ?_, ⟨z, by simp, by omega⟩⟩, hs'⟩
      simp at h
      rcases h with h | h
      · exact hys x h
      · omega
  | _ => exact h.elim
theorem Dice.tup_ne {n wt : Int} {xs : List Int} (h : Dice n wt xs) : xs ≠ [] := by
  intro e
  subst e
  have := h.one
  simp at this
def Sp__law_bad_dice (f : List D → M D) : Prop := ∀ (n wt : Int) (xs : List Int) (s : DS), OkS s → Dice n wt xs → n ≤ 1000 → (f [tok, tupD xs] s).sat fun d s' => nod d = true ∧ isDraw d = false ∧ OkS s'
theorem s__law_bad_dice {call : Str → List D → M D} {w : Nat} (ht : call "_law_take" = takeP) : Sp__law_bad_dice (S__law_bad_dice call w) := by
  intro n wt xs s hs hx hn
  have hl : xs.length ≤ 1000 := by have := hx.most; omega
  have g0 := tv_lo (n := 14) (s := s) (by decide)
  have g1 := tv_hi (n := 14) (s := s) (by decide)
  unfold S__law_bad_dice
  rw [runS_2]
  have hb1 : ∀ {a b : List D}, a.length + b.length ≤ 10000 → binop .Add (.tuple a) (.tuple b) = pure (.tuple (a ++ b)) := fun h => binop_addT (by unfold sline; omega)
  have e1 : binop .Add (tupD xs) (.tuple [.int 0]) = _ := hb1 (by simp; omega)
  have e2 : binop .Add (.tuple [.int (-1)]) (tupD xs) = _ := hb1 (by simp; omega)
  have e3 : binop .Add (.tuple [.bool true]) (tupD xs) = _ := hb1 (by simp; omega)
  have e4 : binop .Add (.tuple (xs.map PyData.int).dropLast) (.tuple [.none]) = _ := hb1 (by simp; omega)
  have hn1 : nods (xs.map PyData.int).dropLast = true := by
    rw [nods_all, List.all_eq_true]
    exact fun d hd => nods_mem (nods_ints xs) ((List.dropLast_sublist _).mem hd)
  simp [-List.reduceReplicate, startN, lstS, tupS, sline, e1, e2, e3, e4, binop_mulT, slS, cut_neg1, biS, bd_at, quiet_at, thenF_at, stE_at, sRet, ixS, evsS_cons, take_callF ht hs, getL_sel g0, g1, OkS_ts hs]
  refine sel_all (P := fun d => nod d = true ∧ isDraw d = false) g0 (by simpa using g1) ?_
  simp [-List.reduceReplicate, isDraw, okW, lastPos, hn1]
theorem sum_nn : ∀ {xs : List Int}, (∀ x ∈ xs, 0 ≤ x) → 0 ≤ xs.sum
  | [], _ => by simp
  | x :: xs, h => by
    have h1 := h x (List.mem_cons_self ..)
    have h2 := sum_nn fun y hy => h y (List.mem_cons_of_mem _ hy)
    rw [List.sum_cons]
    omega
/-- a row of weights -/
structure IsDr (xs : List Int) : Prop where
  one : 1 ≤ xs.length
  most : xs.length ≤ 30
  wt : ∀ x ∈ xs, 0 ≤ x ∧ x ≤ 1000000
  last : ∃ x, xs.getLast? = some x ∧ 0 < x
theorem IsDr.sum {xs : List Int} (h : IsDr xs) : 0 < xs.sum := by
  obtain ⟨ys, z, rfl⟩ := snoc_of h.one
  obtain ⟨x, hx, h0⟩ := h.last
  simp at hx
  subst hx
  rw [List.sum_append]
  have := sum_nn fun y hy => (h.wt y (List.mem_append_left _ hy)).1
  simp
  omega
theorem IsDr.bt {xs : List Int} (h : IsDr xs) {x : Int} (hx : x ∈ xs) : Bt 20 x := by
  have := h.wt x hx
  exact Bt.of_lt (by omega) (by omega)
theorem IsDr.sumBt {xs : List Int} (h : IsDr xs) : Bt 25 xs.sum := Bt.sum (n := 20) (m := 5) (by have := h.most; omega) fun x hx => h.bt hx
theorem Dice.dr {n wt : Int} {xs : List Int} (h : Dice n wt xs) (hn : n ≤ 30) (hw : wt ≤ 1000000) : IsDr xs := ⟨h.one, by have := h.most; omega, fun x hx => ⟨(h.wt x hx).1, by have := (h.wt x hx).2; omega⟩, h.last⟩
theorem IsDr.is {xs : List Int} (h : IsDr xs) : isDraw (tupD xs) = true := by
  obtain ⟨x, h1, h2⟩ := h.last
  simp [isDraw, h.one, h.most, lastPos, h1, h2, okW]
  exact h.wt
theorem isDraw_of {d : D} (h : isDraw d = true) : ∃ xs : List Int, d = tupD xs ∧ IsDr xs := by
  cases d with
  | tuple ds =>
    simp [isDraw] at h
    obtain ⟨⟨h1, h2⟩, h3, h4⟩ := h
    obtain ⟨xs, rfl⟩ : ∃ xs : List Int, ds = xs.map .int := by
      clear h1 h2 h4
      induction ds with
      | nil => exact ⟨[], rfl⟩
      | cons e ds ih =>
        obtain ⟨xs, rfl⟩ := ih fun x hx => h3 x (List.mem_cons_of_mem _ hx)
        have := h3 e (List.mem_cons_self ..)
        cases e with
        | int i => exact ⟨i :: xs, rfl⟩
        | _ => simp [okW] at this
    simp at h1 h2 h3
    refine ⟨xs, rfl, h1, h2, fun x hx => by have := h3 x hx; simpa [okW] using this, ?_⟩
    unfold lastPos at h4
    rw [List.getLast?_map] at h4
    cases e : xs.getLast? with
    | none => rw [e] at h4; simp at h4
    | some x => rw [e] at h4; simp at h4; exact ⟨x, rfl, h4⟩
  | _ => simp [isDraw] at h
end Py

set_option Elab.async false
set_option linter.all false
set_option maxRecDepth 100000
namespace Py
open PySem
def S__law_near_b0 (call : Str → List D → M D) (w : Nat) (σ : St) : M Flow :=
  thenF (sParN σ [false, false] [(callF call ("_law_take" : Str) [(rd σ 0), (biS ("len" : Str) [(rd σ 4)])]), (callF call ("_law_take" : Str) [(rd σ 0), (biS ("len" : Str) [(rd σ 4)])])] [6, 7]) fun σ =>
  thenF (sAsg σ (callF call ("_law_take" : Str) [(rd σ 0), (pure (.int 3))]) 8 false) fun σ =>
  thenF (sIf σ (andS [(cmp1 (ixS (rd σ 4) (rd σ 6)) (rd σ 8) .GtE), (cmp1 (binS .Add (ixS (rd σ 4) (rd σ 7)) (rd σ 8)) (pure (.int 1000000)) .LtE)])
  (thenF (sSub σ 4 (rdV σ 6) (binS .Sub (ixS (rd σ 4) (rd σ 6)) (rd σ 8))) fun σ =>
    thenF (sSub σ 4 (rdV σ 7) (binS .Add (ixS (rd σ 4) (rd σ 7)) (rd σ 8))) fun σ =>
    sEnd σ)
  (sEnd σ)) fun σ =>
  sEnd σ
def S__law_near_c1 (call : Str → List D → M D) (w : Nat) (σ : St) : M D :=
  (andS [(cmp1 (rd σ 4) (lstS []) .NotEq), (cmp1 (ixS (rd σ 4) (negS (pure (.int 1)))) (pure (.int 0)) .Eq)])
def S__law_near_b2 (call : Str → List D → M D) (w : Nat) (σ : St) : M Flow :=
  thenF (sPop0 σ 4) fun σ =>
  sEnd σ
def S__law_near_k3 (call : Str → List D → M D) (w : Nat) (σ : St) : M Flow :=
  thenF (sRet (frz σ [0, 1, 2, 3, 4, 5, 6, 7, 8]) (ifeS (cmp1 (rd (frz σ [0, 1, 2, 3, 4, 5, 6, 7, 8]) 4) (lstS []) .NotEq) (biS ("tuple" : Str) [(rd (frz σ [0, 1, 2, 3, 4, 5, 6, 7, 8]) 4)]) (rdV (frz σ [0, 1, 2, 3, 4, 5, 6, 7, 8]) 1)) false) fun σ =>
  sEnd σ
def S__law_near_k4 (call : Str → List D → M D) (w : Nat) (σ : St) : M Flow :=
  thenF (sWhile (S__law_near_c1 call w) (S__law_near_b2 call w) (w + msr σ) σ) (S__law_near_k3 call w)
def S__law_near_k5 (call : Str → List D → M D) (w : Nat) (σ : St) : M Flow :=
  thenF (sSub σ 4 (callF call ("_law_take" : Str) [(rd σ 0), (biS ("len" : Str) [(rd σ 4)])]) (callF call ("_law_take" : Str) [(rd σ 0), (binS .Add (rd σ 3) (pure (.int 1)))])) (S__law_near_k4 call w)
def S__law_near_k6 (call : Str → List D → M D) (w : Nat) (σ : St) : M Flow :=
  thenF (sFor σ (iterS ("range" : Str) [(binS .Add (pure (.int 1)) (callF call ("_law_take" : Str) [(rd σ 0), (pure (.int 3))]))]) (.one 5) (S__law_near_b0 call w)) (S__law_near_k5 call w)
def S__law_near_k7 (call : Str → List D → M D) (w : Nat) (σ : St) : M Flow :=
  thenF (sAsg σ (slS (rd σ 4) none (some (rd σ 2))) 4 true) (S__law_near_k6 call w)
def S__law_near (call : Str → List D → M D) (w : Nat) : List D → M D := runS ⟨false, false⟩ 4 9 fun σ =>
  thenF (sAsg σ (binS .Add (biS ("list" : Str) [(rd σ 1)]) (binS .Mult (lstS [(pure (.int 0))]) (callF call ("_law_take" : Str) [(rd σ 0), (pure (.int 3))]))) 4 true) (S__law_near_k7 call w)

def S__law_pair (call : Str → List D → M D) (w : Nat) : List D → M D := runS ⟨false, false⟩ 3 5 fun σ =>
  thenF (sAsg (frz σ [0, 1, 2]) (callS call ("_law_dice" : Str) [(rdV (frz σ [0, 1, 2]) 0), (rdV (frz σ [0, 1, 2]) 1), (rdV (frz σ [0, 1, 2]) 2)]) 3 false) fun σ =>
  thenF (sAsg (frz σ [0, 3, 1, 2, 0, 1, 2]) (ifeS (cmp1 (callF call ("_law_take" : Str) [(rd (frz σ [0, 3, 1, 2, 0, 1, 2]) 0), (pure (.int 3))]) (pure (.int 0)) .Gt) (callS call ("_law_near" : Str) [(rdV (frz σ [0, 3, 1, 2, 0, 1, 2]) 0), (rdV (frz σ [0, 3, 1, 2, 0, 1, 2]) 3), (rdV (frz σ [0, 3, 1, 2, 0, 1, 2]) 1), (rdV (frz σ [0, 3, 1, 2, 0, 1, 2]) 2)]) (callS call ("_law_dice" : Str) [(rdV (frz σ [0, 3, 1, 2, 0, 1, 2]) 0), (rdV (frz σ [0, 3, 1, 2, 0, 1, 2]) 1), (rdV (frz σ [0, 3, 1, 2, 0, 1, 2]) 2)])) 4 false) fun σ =>
  thenF (sRet (frz σ [0, 1, 2, 3, 4]) (ifeS (cmp1 (callF call ("_law_take" : Str) [(rd (frz σ [0, 1, 2, 3, 4]) 0), (pure (.int 2))]) (pure (.int 0)) .Eq) (lstS [(rdV (frz σ [0, 1, 2, 3, 4]) 3), (rdV (frz σ [0, 1, 2, 3, 4]) 4)]) (lstS [(rdV (frz σ [0, 1, 2, 3, 4]) 4), (rdV (frz σ [0, 1, 2, 3, 4]) 3)])) true) fun σ =>
  sEnd σ

def Sp__law_near (f : List D → M D) : Prop := ∀ (xs : List Int) (n wt : Int) (s : DS), OkS s → IsDr xs → 1 ≤ n → n ≤ 30 → 1 ≤ wt → wt ≤ 1000000 → (f [tok, tupD xs, .int n, .int wt] s).sat fun d s' => ∃ ys, d = tupD ys ∧ IsDr ys ∧ (ys.length : Int) ≤ max n xs.length ∧ OkS s'
def nearSt (xs : List Int) (n wt : Int) (row : List Int) (a5 a6 a7 a8 : Sl) : St := [some (tok, false), some (tupD xs, false), some (.int n, false), some (.int wt, false), some (.list (row.map .int), true), a5, a6, a7, a8]
def okRow (row : List Int) : Prop := ∀ x ∈ row, 0 ≤ x ∧ x ≤ 1000000
theorem okRow.set {row : List Int} (h : okRow row) {i : Nat} {v : Int} (h0 : 0 ≤ v) (h1 : v ≤ 1000000) : okRow (row.set i v) := fun x hx => by
  rcases List.mem_or_eq_of_mem_set hx with hx | rfl
  · exact h x hx
  · exact ⟨h0, h1⟩
theorem near_turn {call : Str → List D → M D} {w : Nat} (ht : call "_law_take" = takeP) {xs row : List Int} {n wt : Int} (h1 : 1 ≤ row.length) (h2 : row.length ≤ 1000) (ho : okRow row) (a5 a6 a7 a8 : Sl) {s : DS} (hs : OkS s) :
    (S__law_near_b0 call w (nearSt xs n wt row a5 a6 a7 a8) s).sat (NC fun σ s' => OkS s' ∧ ∃ row' a6 a7 a8, σ = nearSt xs n wt row' a5 a6 a7 a8 ∧ row'.length = row.length ∧ okRow row') := by
  have hL : (0 : Int) < (row.length : Int) := by omega
  have hL' : (row.length : Int) < 2 ^ 64 := by omega
  have i0 := tv_lo (s := s) hL
  have i1 := tv_hi (s := s) hL
  have hs1 := OkS_ts (n := row.length) hs
  have j0 := tv_lo (s := ts row.length s) hL
  have j1 := tv_hi (s := ts row.length s) hL
  have hs2 := OkS_ts (n := row.length) hs1
  have t0 := tv_lo (n := 3) (s := ts row.length (ts row.length s)) (by decide)
  have t1 := tv_hi (n := 3) (s := ts row.length (ts row.length s)) (by decide)
  have hs3 := OkS_ts (n := 3) hs2
  simp [S__law_near_b0, nearSt, bd_at, stE_at, thenF_at, quiet_at, ifeS, tstS, cmp1, cmp2, binS, ixS, slS, optS, biS, callS, lstS, tupS, iterS, evsS_cons, asBool, asInt, sFor, sAsg, sIf, sRet, sExp, sTup, negS, notS, andS, orS, callF_eq, take_T ht hs hL hL', take_T ht hs1 hL hL', take_T ht hs2]
  generalize tv row.length s = i at *
  generalize tv row.length (ts row.length s) = j at *
  generalize tv 3 (ts row.length (ts row.length s)) = t at *
  generalize ts 3 (ts row.length (ts row.length s)) = s' at *
  have gi : getD' (.list (row.map .int)) (.int i) = _ := getL_ix i0 i1
  have gj : getD' (.list (row.map .int)) (.int j) = _ := getL_ix j0 j1
  have mi := ho _ (ix_mem i0 i1)
  have mj := ho _ (ix_mem j0 j1)
  simp [gi, gj]
  by_cases c1 : t ≤ ix row i
  · by_cases c2 : ix row j + t ≤ 1000000
    · have xi : L2.ixN row.length i = some i.toNat := ixN_nn i0 i1
      have xj : L2.ixN row.length j = some j.toNat := ixN_nn j0 j1
      have o1 : okRow (row.set i.toNat (ix row i - t)) := ho.set (by omega) (by omega)
      have gj2 : getD' (.list ((row.map PyData.int).set i.toNat (.int (ix row i - t)))) (.int j) = pure (.int (ix (row.set i.toNat (ix row i - t)) j)) := by
        rw [set_mapI]
        exact getL_ix j0 (by simpa using j1)
      have mj2 : 0 ≤ ix (row.set i.toNat (ix row i - t)) j ∧ ix (row.set i.toNat (ix row i - t)) j + t ≤ 1000000 := by
        have h := o1 _ (ix_mem j0 (by simpa using j1))
        refine ⟨h.1, ?_⟩
        by_cases hij : i.toNat = j.toNat
        · have : i = j := by omega
          subst this
          have : ix (row.set i.toNat (ix row i - t)) i = ix row i - t := by
            have h3 : i.toNat < row.length := by omega
            simp [ix, h3]
          omega
        · have : ix (row.set i.toNat (ix row i - t)) j = ix row j := by
            unfold ix
            rw [List.getD_eq_getElem?_getD, List.getElem?_set_ne hij, ← List.getD_eq_getElem?_getD]
          omega
      simp [c1, c2, sSub, ownI, xi, bd_at, stE_at, thenF_at, quiet_at, ifeS, tstS, cmp1, cmp2, binS, ixS, slS, optS, biS, callS, lstS, tupS, iterS, evsS_cons, asBool, asInt, sFor, sAsg, sIf, sRet, sExp, sTup, negS, notS, andS, orS, callF_eq, gj2, xj]
      refine ⟨hs3, (row.set i.toNat (ix row i - t)).set j.toNat (ix (row.set i.toNat (ix row i - t)) j + t), by rw [set_mapI, set_mapI], by simp, o1.set (by omega) (by omega)⟩
    · simp [c1, c2]
      exact ⟨hs3, row, rfl, rfl, ho⟩
  · simp [c1]
    exact ⟨hs3, row, rfl, rfl, ho⟩
end Py

set_option Elab.async false
set_option linter.all false
set_option maxRecDepth 100000
namespace Py
open PySem
theorem sEq_near {call : Str → List D → M D} {w : Nat} (xs : List Int) (n wt : Int) (a5 a6 a7 a8 : Sl) : True := trivial
theorem near_end {call : Str → List D → M D} {w : Nat} (hw : 1 ≤ w) {xs row : List Int} {n wt : Int} (hx : IsDr xs) (hl : row.length ≤ 30) (ho : okRow row) (a5 a6 a7 a8 : Sl) {s : DS} (hs : OkS s) :
    (S__law_near_k4 call w (nearSt xs n wt row a5 a6 a7 a8) s).sat fun fl s' => ∃ ys o, fl = .ret (tupD ys) o ∧ IsDr ys ∧ ys.length ≤ max row.length xs.length ∧ OkS s' := by
  have hm : (row.map PyData.int).length ≤ msr (nearSt xs n wt row a5 a6 a7 a8) := msr_list _ 4 _ true rfl
  rw [List.length_map] at hm
  obtain ⟨ys, m, e, h2, h3⟩ := strip_loop (c := S__law_near_c1 call w) (b := S__law_near_b2 call w) (fun row => nearSt xs n wt row a5 a6 a7 a8) (by
      have := eqD_listnil []
      simp at this
      simp [S__law_near_c1, nearSt, lstS, sline, this]) (fun ys z => by
      have := eqD_listnil (ys ++ [z])
      simp at this
      simp [S__law_near_c1, nearSt, lstS, sline, this]) (fun ys z => by
      simp [S__law_near_b2, nearSt, sPop0, ownI]) (w + msr (nearSt xs n wt row a5 a6 a7 a8)) row (by omega)
  simp [S__law_near_k4, h3]
  rcases h2 with rfl | ⟨zs, z, rfl, hz⟩
  · have := eqD_listnil []
    simp at this
    simp [S__law_near_k3, nearSt, lstS, sline, this]
    exact ⟨xs, by simp, hx, by omega, hs⟩
  · have := eqD_listnil (zs ++ [z])
    simp at this
    simp [S__law_near_k3, nearSt, lstS, sline, this, biS]
    have hzs : okRow (zs ++ [z]) := fun x hx => ho x (by rw [e]; exact List.mem_append_left _ hx)
    have hlen : (zs ++ [z]).length ≤ row.length := by rw [e]; simp
    have hzz := hzs z (by simp)
    simp at hlen
    refine ⟨zs ++ [z], by simp, ⟨by simp, by simp; omega, hzs, z, by simp, by omega⟩, by simp; omega, hs⟩
theorem s__law_near {call : Str → List D → M D} {w : Nat} (hw : 1 ≤ w) (ht : call "_law_take" = takeP) : Sp__law_near (S__law_near call w) := by
  intro xs n wt s hs hx n1 n2 w1 w2
  unfold S__law_near
  rw [runS_4]
  have hl := hx.most
  have h1 := hx.one
  have g0 := tv_lo (n := 3) (s := s) (by decide)
  have g1 := tv_hi (n := 3) (s := s) (by decide)
  have hs1 := OkS_ts (n := 3) hs
  have ea : binop .Add (.list (xs.map .int)) (.list (List.replicate (tv 3 s).toNat (.int 0))) = _ := binop_addL (sl (by simp; omega))
  have hz : binop .Mult (.list [.int 0]) (.int (tv 3 s)) = _ := binop_mulL (by omega) (by omega)
  simp [-List.reduceReplicate, startN, bd_at, stE_at, thenF_at, quiet_at, ifeS, tstS, cmp1, cmp2, binS, ixS, slS, optS, biS, callS, lstS, tupS, iterS, evsS_cons, asBool, asInt, sFor, sAsg, sIf, sRet, sExp, sTup, negS, notS, andS, orS, callF_eq, sline, take_T ht hs, hz, ea]
  obtain ⟨row0, hr0, hr1, hr2⟩ : ∃ row0 : List Int, xs.map PyData.int ++ List.replicate (tv 3 s).toNat (.int 0) = row0.map .int ∧ okRow row0 ∧ 1 ≤ row0.length := ⟨xs ++ List.replicate (tv 3 s).toNat 0, by simp, fun x hx' => by
    rcases List.mem_append.mp hx' with h | h
    · exact hx.wt x h
    · rw [List.eq_of_mem_replicate h]; decide, by simp; omega⟩
  rw [hr0]
  have ct := cut_to (row0.map PyData.int) (k := n) (by omega)
  rw [← List.map_take] at ct
  simp [S__law_near_k7, bd_at, stE_at, thenF_at, quiet_at, ifeS, tstS, cmp1, cmp2, binS, ixS, slS, optS, biS, callS, lstS, tupS, iterS, evsS_cons, asBool, asInt, sFor, sAsg, sIf, sRet, sExp, sTup, negS, notS, andS, orS, callF_eq, -List.map_take]
  rw [ct]
  generalize hr : row0.take n.toNat = row at *
  have r1 : 1 ≤ row.length := by rw [← hr, List.length_take]; omega
  have r2 : (row.length : Int) ≤ n := by rw [← hr, List.length_take]; omega
  have r3 : okRow row := fun x h => hr1 x (by rw [← hr] at h; exact List.mem_of_mem_take h)
  have g2 := tv_lo (n := 3) (s := ts 3 s) (by decide)
  have g3 := tv_hi (n := 3) (s := ts 3 s) (by decide)
  have hs2 := OkS_ts (n := 3) hs1
  have hrg := range0 (n := 1 + tv 3 (ts 3 s)) (by omega) (by omega)
  simp [S__law_near_k6, bd_at, stE_at, thenF_at, quiet_at, ifeS, tstS, cmp1, cmp2, binS, ixS, slS, optS, biS, callS, lstS, tupS, iterS, evsS_cons, asBool, asInt, sFor, sAsg, sIf, sRet, sExp, sTup, negS, notS, andS, orS, callF_eq, take_T ht hs1, hrg]
  refine Res.sat.bnd (Res.sat.mono (Q := fun fl s' => ∃ ys o, fl = .ret (tupD ys) o ∧ IsDr ys ∧ (ys.length : Int) ≤ max n xs.length ∧ OkS s') (Res.sat.qt (Res.sat.fl (forL_ds _ (fun _ σ s => OkS s ∧ ∃ row' a5 a6 a7 a8, σ = nearSt xs n wt row' a5 a6 a7 a8 ∧ row'.length = row.length ∧ okRow row') (fun k v σ s hv ⟨hs, row', a5, a6, a7, a8, e, q1, q2⟩ => ?_) ⟨hs2, row, none, none, none, none, rfl, rfl, r3⟩) fun σ s ⟨hs, row', a5, a6, a7, a8, e, q1, q2⟩ => ?_)) fun fl s' ⟨ys, o, e, h1, h2, h3⟩ => ?_)
  · subst e
    refine ⟨_, rfl, ?_⟩
    have := near_turn (w := w) ht (xs := xs) (n := n) (wt := wt) (by omega : 1 ≤ row'.length) (by omega) q2 (some (v, false)) a6 a7 a8 hs
    refine Res.sat.mono this fun fl s' h => ?_
    cases fl with
    | nx σ => obtain ⟨h1, row2, a6, a7, a8, e, h2, h3⟩ := h; exact ⟨h1, row2, _, a6, a7, a8, e, by omega, h3⟩
    | ct σ => obtain ⟨h1, row2, a6, a7, a8, e, h2, h3⟩ := h; exact ⟨h1, row2, _, a6, a7, a8, e, by omega, h3⟩
    | _ => exact h.elim
  · subst e
    have hw1 : (0 : Int) < wt + 1 := by omega
    have hw2 : wt + 1 < 2 ^ 64 := by omega
    have k0 := tv_lo (s := s) hw1
    have k1 := tv_hi (s := s) hw1
    have hs3 := OkS_ts (n := wt + 1) hs
    have hR : (0 : Int) < (row'.length : Int) := by omega
    have i0 := tv_lo (s := ts (wt + 1) s) hR
    have i1 := tv_hi (s := ts (wt + 1) s) hR
    have hs4 := OkS_ts (n := row'.length) hs3
    have xi : L2.ixN row'.length (tv row'.length (ts (wt + 1) s)) = some (tv row'.length (ts (wt + 1) s)).toNat := ixN_nn i0 i1
    have hend := near_end (call := call) hw (n := n) (wt := wt) hx (row := row'.set (tv row'.length (ts (wt + 1) s)).toNat (tv (wt + 1) s)) (by simp; omega) (q2.set (by omega) (by omega)) a5 a6 a7 a8 hs4
    simp [S__law_near_k5, nearSt, sSub, ownI, bd_at, stE_at, thenF_at, quiet_at, ifeS, tstS, cmp1, cmp2, binS, ixS, slS, optS, biS, callS, lstS, tupS, iterS, evsS_cons, asBool, asInt, sFor, sAsg, sIf, sRet, sExp, sTup, negS, notS, andS, orS, callF_eq, take_T ht hs hw1 hw2, take_T ht hs3 hR (by omega : (row'.length : Int) < 2 ^ 64), xi]
    unfold nearSt at hend
    rw [← set_mapI] at hend
    refine Res.sat.mono hend fun fl s' ⟨ys, o, e, h1, h2, h3⟩ => ⟨ys, ?_, h1, ?_, h3⟩
    · cases o <;> simp [e]
    · simp at h2
      omega
  · subst e
    simp
    exact ⟨ys, rfl, h1, h2, h3⟩
def Sp__law_pair (f : List D → M D) : Prop := ∀ (n wt : Int) (s : DS), OkS s → 1 ≤ n → n ≤ 30 → 1 ≤ wt → wt ≤ 1000000 → (f [tok, .int n, .int wt] s).sat fun d s' => ∃ a b : List Int, d = .list [tupD a, tupD b] ∧ IsDr a ∧ IsDr b ∧ (a.length : Int) ≤ n ∧ (b.length : Int) ≤ n ∧ OkS s'
theorem s__law_pair {call : Str → List D → M D} {w : Nat} (ht : call "_law_take" = takeP) (h1 : Sp__law_dice (call "_law_dice")) (h2 : Sp__law_near (call "_law_near")) : Sp__law_pair (S__law_pair call w) := by
  intro n wt s hs n1 n2 w1 w2
  unfold S__law_pair
  rw [runS_3]
  obtain ⟨d, s1, e1, a, rfl, da, hs1⟩ := (h1 n wt s hs n1 (by omega) w1 w2).ex
  have ha := da.dr n2 w2
  have hal := da.most
  have hs2 := OkS_ts (n := 3) hs1
  have fin : ∀ (b : List Int) (s' : DS), OkS s' → IsDr b → (b.length : Int) ≤ n →
    ((stE (ifeS (cmp1 (callF call "_law_take" [pure tok, pure (.int 2)]) (pure (.int 0)) .Eq) (lstS [pure (tupD a), pure (tupD b)]) (lstS [pure (tupD b), pure (tupD a)])) [some (tok, false), some (.int n, false), some (.int wt, false), some (tupD a, false), some (tupD b, false)] (fun d => (pure (.ret d (true && isL d)) : M Flow))) s').sat fun fl s' => ∃ (a b : List Int) (o : Bool), fl = .ret (.list [tupD a, tupD b]) o ∧ IsDr a ∧ IsDr b ∧ (a.length : Int) ≤ n ∧ (b.length : Int) ≤ n ∧ OkS s' := fun b s' hs' hb hbl => by
    have hs3 := OkS_ts (n := 2) hs'
    by_cases c : tv 2 s' = 0
    · simp [bd_at, stE_at, thenF_at, quiet_at, ifeS, tstS, cmp1, cmp2, binS, ixS, slS, optS, biS, callS, lstS, tupS, iterS, evsS_cons, asBool, asInt, sFor, sAsg, sIf, sRet, sExp, sTup, negS, notS, andS, orS, callF_eq, take_T ht hs', c, sline]
      exact ⟨a, b, ⟨rfl, rfl⟩, ha, hb, hal, hbl, hs3⟩
    · simp [bd_at, stE_at, thenF_at, quiet_at, ifeS, tstS, cmp1, cmp2, binS, ixS, slS, optS, biS, callS, lstS, tupS, iterS, evsS_cons, asBool, asInt, sFor, sAsg, sIf, sRet, sExp, sTup, negS, notS, andS, orS, callF_eq, take_T ht hs', c, sline]
      exact ⟨b, a, ⟨rfl, rfl⟩, hb, ha, hbl, hal, hs3⟩
  by_cases c : 0 < tv 3 s1
  · obtain ⟨d, s4, e4, b, rfl, hb, hbl, hs4⟩ := (h2 a n wt (ts 3 s1) hs2 ha n1 n2 w1 w2).ex
    obtain ⟨fl, s5, e5, a', b', o, rfl, q1, q2, q3, q4, q5⟩ := (fin b s4 hs4 hb (by omega)).ex
    simp [bd_at, stE_at, thenF_at, quiet_at, ifeS, tstS, cmp1, cmp2, binS, ixS, slS, optS, biS, callS, lstS, tupS, iterS, evsS_cons, asBool, asInt, sFor, sAsg, sIf, sRet, sExp, sTup, negS, notS, andS, orS, callF_eq, sline] at e5
    simp [startN, bd_at, stE_at, thenF_at, quiet_at, ifeS, tstS, cmp1, cmp2, binS, ixS, slS, optS, biS, callS, lstS, tupS, iterS, evsS_cons, asBool, asInt, sFor, sAsg, sIf, sRet, sExp, sTup, negS, notS, andS, orS, callF_eq, e1, take_T ht hs1, c, e4, sline]
    rw [e5]
    simp
    exact ⟨a', b', ⟨rfl, rfl⟩, q1, q2, q3, q4, q5⟩
  · obtain ⟨d, s4, e4, b, rfl, hb, hs4⟩ := (h1 n wt (ts 3 s1) hs2 n1 (by omega) w1 w2).ex
    obtain ⟨fl, s5, e5, a', b', o, rfl, q1, q2, q3, q4, q5⟩ := (fin b s4 hs4 (hb.dr n2 w2) hb.most).ex
    simp [bd_at, stE_at, thenF_at, quiet_at, ifeS, tstS, cmp1, cmp2, binS, ixS, slS, optS, biS, callS, lstS, tupS, iterS, evsS_cons, asBool, asInt, sFor, sAsg, sIf, sRet, sExp, sTup, negS, notS, andS, orS, callF_eq, sline] at e5
    simp [startN, bd_at, stE_at, thenF_at, quiet_at, ifeS, tstS, cmp1, cmp2, binS, ixS, slS, optS, biS, callS, lstS, tupS, iterS, evsS_cons, asBool, asInt, sFor, sAsg, sIf, sRet, sExp, sTup, negS, notS, andS, orS, callF_eq, e1, take_T ht hs1, c, e4, sline]
    rw [e5]
    simp
    exact ⟨a', b', ⟨rfl, rfl⟩, q1, q2, q3, q4, q5⟩
end Py

set_option Elab.async false
set_option linter.all false
set_option maxRecDepth 100000
namespace Py
open PySem
def S_tails_b0 (call : Str → List D → M D) (w : Nat) (σ : St) : M Flow :=
  thenF (sAug σ 2 .Add (rdV σ 3)) fun σ =>
  thenF (sApp (frz σ [2]) 1 (rdV (frz σ [2]) 2)) fun σ =>
  sEnd σ
def S_tails (call : Str → List D → M D) (w : Nat) : List D → M D := runS ⟨false, false⟩ 1 4 fun σ =>
  thenF (sParN σ [true, false] [(lstS []), (pure (.int 0))] [1, 2]) fun σ =>
  thenF (sFor σ (dataI (revS (rd σ 0))) (.one 3) (S_tails_b0 call w)) fun σ =>
  thenF (sRet (frz σ [0, 1, 2, 3]) (revS (rd (frz σ [0, 1, 2, 3]) 1)) true) fun σ =>
  sEnd σ

def S_heads_b0 (call : Str → List D → M D) (w : Nat) (σ : St) : M Flow :=
  thenF (sAug σ 2 .Add (rdV σ 3)) fun σ =>
  thenF (sApp (frz σ [2]) 1 (rdV (frz σ [2]) 2)) fun σ =>
  sEnd σ
def S_heads (call : Str → List D → M D) (w : Nat) : List D → M D := runS ⟨false, false⟩ 1 4 fun σ =>
  thenF (sParN σ [true, false] [(lstS []), (pure (.int 0))] [1, 2]) fun σ =>
  thenF (sFor (frz (frz σ [0]) [0]) (dataI (rdV (frz (frz σ [0]) [0]) 0)) (.one 3) (S_heads_b0 call w)) fun σ =>
  thenF (sRetN σ 1) fun σ =>
  sEnd σ

def S_common_rows_e0 (call : Str → List D → M D) (w : Nat) (σ : St) : M D :=
  (binS .Mult (rd σ 7) (rd σ 4))
def S_common_rows_e1 (call : Str → List D → M D) (w : Nat) (σ : St) : M D :=
  (binS .Mult (rd σ 7) (rd σ 3))
def S_common_rows (call : Str → List D → M D) (w : Nat) : List D → M D := runS ⟨false, false⟩ 2 8 fun σ =>
  thenF (sAsg σ (biS ("max" : Str) [(biS ("len" : Str) [(rd σ 0)]), (biS ("len" : Str) [(rd σ 1)])]) 2 false) fun σ =>
  thenF (sTup σ (tupS [(biS ("sum" : Str) [(rd σ 0)]), (biS ("sum" : Str) [(rd σ 1)])]) (.many [3, 4])) fun σ =>
  thenF (sAsg σ (binS .Add (compS (dataI (rd σ 0)) (fun d => bindG (.one 7) (wipe σ [7]) d) (fun _ => pure true) (S_common_rows_e0 call w)) (binS .Mult (lstS [(pure (.int 0))]) (binS .Sub (rd σ 2) (biS ("len" : Str) [(rd σ 0)])))) 5 true) fun σ =>
  thenF (sAsg σ (binS .Add (compS (dataI (rd σ 1)) (fun d => bindG (.one 7) (wipe σ [7]) d) (fun _ => pure true) (S_common_rows_e1 call w)) (binS .Mult (lstS [(pure (.int 0))]) (binS .Sub (rd σ 2) (biS ("len" : Str) [(rd σ 1)])))) 6 true) fun σ =>
  thenF (sRet (frz σ [0, 1, 2, 3, 4, 5, 6]) (tupS [(rdV (frz σ [0, 1, 2, 3, 4, 5, 6]) 5), (rdV (frz σ [0, 1, 2, 3, 4, 5, 6]) 6)]) false) fun σ =>
  sEnd σ

/-- the sums from each place on -/
def tl : List Int → List Int
  | [] => []
  | x :: xs => (x :: xs).sum :: tl xs
theorem tl_len : ∀ xs : List Int, (tl xs).length = xs.length
  | [] => rfl
  | x :: xs => by simp [tl, tl_len xs]
theorem tl_get : ∀ (xs : List Int) (i : Nat), i < xs.length → ix (tl xs) i = (xs.drop i).sum
  | [], i, h => by simp at h
  | x :: xs, 0, _ => by simp [tl, ix]
  | x :: xs, i + 1, h => by
    have := tl_get xs i (by simpa using h)
    simp [ix] at this
    simp [tl, ix, this]
theorem tl_range (xs : List Int) : (List.range xs.length).map (fun (i : Nat) => (xs.drop i).sum) = tl xs := by
  apply List.ext_getElem
  · simp [tl_len]
  · intro i h1 h2
    simp at h1
    have := tl_get xs i h1
    unfold ix at this
    rw [List.getD_eq_getElem?_getD, Int.toNat_natCast, List.getElem?_eq_getElem h2] at this
    simp at this
    simp [this]
theorem tl_drop : ∀ (xs : List Int) (k : Nat), (tl xs).drop k = tl (xs.drop k)
  | xs, 0 => by simp
  | [], k + 1 => by simp [tl]
  | x :: xs, k + 1 => by simp [tl, tl_drop xs k]
/-- sums along a list -/
def scan (a : Int) : List Int → List Int
  | [] => []
  | x :: xs => (a + x) :: scan (a + x) xs
theorem scan_snoc : ∀ (a : Int) (xs : List Int) (x : Int), scan a (xs ++ [x]) = scan a xs ++ [a + xs.sum + x]
  | a, [], x => by simp [scan]
  | a, y :: xs, x => by
    have := scan_snoc (a + y) xs x
    simp [scan, this]
    omega
theorem scan_rev : ∀ xs : List Int, (scan 0 xs.reverse).reverse = tl xs
  | [] => rfl
  | x :: xs => by
    have ih := scan_rev xs
    rw [List.reverse_cons, scan_snoc, List.reverse_append, ih]
    simp [tl]
    omega
theorem scan_len : ∀ (a : Int) (xs : List Int), (scan a xs).length = xs.length
  | _, [] => rfl
  | a, x :: xs => by simp [scan, scan_len]
def Sp_tails (f : List D → M D) : Prop := ∀ xs : List Int, xs.length ≤ 1000 → f [lisD xs] = pure (lisD (tl xs))
theorem s_tails {call : Str → List D → M D} {w : Nat} : Sp_tails (S_tails call w) := by
  intro xs hl
  unfold S_tails
  rw [runS_1]
  obtain ⟨v', e, h⟩ := forL_fold (enc := PyData.int) (bind := bindG (.one 3)) (b := S_tails_b0 call w) (fun (a : List Int × Int) x => (a.1 ++ [a.2 + x], a.2 + x)) (fun a v => [some (lisD xs, false), some (lisD a.1, true), some (.int a.2, false), v]) (fun _ _ _ => rfl) (fun k a => a.1.length = k) xs.reverse 0 (fun i x a hx ha => by
    have hi := (List.getElem?_eq_some_iff.mp hx).1
    simp at hi ha
    refine ⟨?_, by simp [ha]⟩
    simp [S_tails_b0]
    rw [sAug_int (i := 2) rfl (augI_add ..)]
    simp
    rw [sApp_own (l := 1) rfl (sl' (by simp; omega))]
    simp [lisD]) ([], 0) rfl none
  have key : ∀ (ys : List Int) (f : List Int) (t : Int), (ys.foldl (fun (a : List Int × Int) x => (a.1 ++ [a.2 + x], a.2 + x)) (f, t)).1 = f ++ scan t ys := by
    intro ys
    induction ys with
    | nil => intro f t; simp [scan]
    | cons y ys ih => intro f t; rw [List.foldl_cons, ih]; simp [scan]
  have k2 := key xs.reverse [] 0
  simp at k2
  simp [lisD] at e
  simp [startN, lstS, sline, lisD, e, k2]
  rw [← scan_rev]
  simp [lisD]
/-- a row on a common scale -/
def pad (s : Nat) (c : Int) (xs : List Int) : List Int := xs.map (fun x => x * c) ++ List.replicate (s - xs.length) 0
theorem pad_len {s : Nat} {c : Int} {xs : List Int} (h : xs.length ≤ s) : (pad s c xs).length = s := by
  simp [pad]
  omega
theorem pad_D (s : Nat) (c : Int) (xs : List Int) : (xs.map fun x => PyData.int (x * c)) ++ List.replicate (s - xs.length) (PyData.int 0) = (pad s c xs).map .int := by simp [pad]
theorem pad_bt {s : Nat} {c : Int} {xs : List Int} (hx : ∀ x ∈ xs, Bt 20 x) (hc : Bt 25 c) : ∀ x ∈ pad s c xs, Bt 45 x := by
  intro x h
  unfold pad at h
  rcases List.mem_append.mp h with h | h
  · obtain ⟨y, hy, rfl⟩ := List.mem_map.mp h
    exact (hx y hy).mul hc
  · rw [List.eq_of_mem_replicate h]
    exact Bt.of_lt (by decide) (by decide)
theorem pad_nn {s : Nat} {c : Int} {xs : List Int} (hx : ∀ x ∈ xs, 0 ≤ x) (hc : 0 ≤ c) : ∀ x ∈ pad s c xs, 0 ≤ x := by
  intro x h
  unfold pad at h
  rcases List.mem_append.mp h with h | h
  · obtain ⟨y, hy, rfl⟩ := List.mem_map.mp h
    exact Int.mul_nonneg (hx y hy) hc
  · rw [List.eq_of_mem_replicate h]
    decide
def padsD (mk : List D → D) (a b : List Int) : D := mk [lisD (pad (max a.length b.length) b.sum a), lisD (pad (max a.length b.length) a.sum b)]
theorem zeros {n : Nat} {m : Nat} (h : m ≤ n) (hn : n ≤ 1000) : binop .Mult (.list [.int 0]) (.int ((n : Int) - (m : Int))) = pure (.list (List.replicate (n - m) (.int 0))) := by
  rw [binop_mulL (by omega) (by omega)]
  congr 3
  omega
def Sp_common_rows (f : List D → M D) : Prop := ∀ a b : List Int, IsDr a → IsDr b → f [tupD a, tupD b] = pure (padsD .tuple a b)
theorem s_common_rows {call : Str → List D → M D} {w : Nat} : Sp_common_rows (S_common_rows call w) := by
  intro a b ha hb
  unfold S_common_rows
  rw [runS_2]
  have la := ha.most
  have lb := hb.most
  have hmx : max (a.length : Int) (b.length : Int) = ((max a.length b.length : Nat) : Int) := by omega
  simp [startN, biS, hmx, lstS, tupS, sline]
  rw [compS_map a .int (fun x => .int (x * b.sum)) rfl (sl (by omega)) fun x hx => ⟨_, rfl, by simp [S_common_rows_e0, bmul (ha.bt hx) hb.sumBt]⟩]
  rw [zeros (by omega) (by omega)]
  simp
  rw [binop_addL (sl (by simp; omega)), pad_D]
  simp [biS]
  rw [compS_map b .int (fun x => .int (x * a.sum)) rfl (sl (by omega)) fun x hx => ⟨_, rfl, by simp [S_common_rows_e1, bmul (hb.bt hx) ha.sumBt]⟩]
  rw [zeros (by omega) (by omega)]
  simp
  rw [binop_addL (sl (by simp; omega)), pad_D]
  simp [tupS, sline, padsD, lisD]
theorem tl_sum : ∀ xs : List Int, (tl xs).sum = sumR xs.length (fun i => ((i : Int) + 1) * ix xs i)
  | [] => rfl
  | x :: xs => by
    rw [List.length_cons, sumR_front]
    have e : sumR xs.length (fun i => (((i + 1 : Nat) : Int) + 1) * ix (x :: xs) ((i + 1 : Nat) : Int)) = sumR xs.length (fun i => ((i : Int) + 1) * ix xs i) + xs.sum := by
      rw [sum_ix xs, ← sumR_add]
      refine sumR_congr fun i _ => ?_
      rw [ix_cons_succ]
      have : (((i + 1 : Nat) : Int) + 1) = ((i : Int) + 1) + 1 := by omega
      rw [this, Int.add_mul ((i : Int) + 1), Int.one_mul]
    rw [e, ← tl_sum xs, ix_cons_zero]
    simp [tl]
    omega
theorem scan_sum : ∀ (a : Int) (xs : List Int), (scan a xs).sum = (xs.length : Int) * a + sumR xs.length (fun i => ((xs.length : Int) - (i : Int)) * ix xs i)
  | a, [] => by simp [scan]
  | a, x :: xs => by
    rw [List.length_cons, sumR_front]
    have e : sumR xs.length (fun i => (((xs.length + 1 : Nat) : Int) - ((i + 1 : Nat) : Int)) * ix (x :: xs) ((i + 1 : Nat) : Int)) = sumR xs.length (fun i => ((xs.length : Int) - (i : Int)) * ix xs i) := by
      refine sumR_congr fun i _ => ?_
      rw [ix_cons_succ]
      congr 1
      omega
    rw [e, ix_cons_zero]
    have := scan_sum (a + x) xs
    simp [scan, this]
    rw [Int.mul_add, Int.add_mul, Int.add_mul]
    omega
theorem scan_take : ∀ (a : Int) (xs : List Int) (k : Nat), (scan a xs).take k = scan a (xs.take k)
  | a, xs, 0 => by simp [scan]
  | a, [], k + 1 => by simp [scan]
  | a, x :: xs, k + 1 => by simp [scan, scan_take (a + x) xs k]
theorem scan_get : ∀ (a : Int) (xs : List Int) (k : Nat), k < xs.length → ix (scan a xs) k = a + (xs.take (k + 1)).sum
  | a, [], k, h => by simp at h
  | a, x :: xs, 0, _ => by simp [scan, ix]
  | a, x :: xs, k + 1, h => by
    have := scan_get (a + x) xs k (by simpa using h)
    simp [scan]
    rw [show ((k : Int) + 1) = ((k + 1 : Nat) : Int) by omega, ix_cons_succ, this]
    omega
theorem scan_range (xs : List Int) : (List.range xs.length).map (fun (i : Nat) => (xs.take (i + 1)).sum) = scan 0 xs := by
  apply ext_ix (by simp [scan_len])
  intro k hk
  simp at hk
  rw [scan_get 0 xs k hk, ix_map _ _ _ (by simpa using hk)]
  simp
/-- icx, mrl, hmrl: the law's sums -/
theorem tl2_range (xs : List Int) : (List.range xs.length).map (fun (k : Nat) => sumR (xs.length - k) (fun j => (((k + j : Nat) : Int) + 1 - (k : Int)) * ix xs ((k + j : Nat) : Int))) = tl (tl xs) := by
  apply ext_ix (by simp [tl_len])
  intro k hk
  simp at hk
  rw [tl_get _ _ (by rw [tl_len]; exact hk), tl_drop, tl_sum, ix_map _ _ _ (by simpa using hk)]
  simp only [List.getElem_range, List.length_drop]
  refine sumR_congr fun i _ => ?_
  rw [ix_drop]
  congr 1
  omega
/-- icv: the law's sums -/
theorem scan2_range (xs : List Int) : (List.range xs.length).map (fun (k : Nat) => sumR (k + 1) (fun i => ((k : Int) - (i : Int) + 1) * ix xs (i : Int))) = scan 0 (scan 0 xs) := by
  apply ext_ix (by simp [scan_len])
  intro k hk
  simp at hk
  rw [scan_get _ _ _ (by rw [scan_len]; exact hk), scan_take, scan_sum, ix_map _ _ _ (by simpa using hk)]
  simp only [List.getElem_range, List.length_take]
  rw [show min (k + 1) xs.length = k + 1 by omega, Int.mul_zero, Int.zero_add, Int.zero_add]
  refine sumR_congr fun i hi => ?_
  rw [ix_take hi]
  congr 1
  omega
def Sp_heads (f : List D → M D) : Prop := ∀ xs : List Int, xs.length ≤ 1000 → f [lisD xs] = pure (lisD (scan 0 xs))
theorem s_heads {call : Str → List D → M D} {w : Nat} : Sp_heads (S_heads call w) := by
  intro xs hl
  unfold S_heads
  rw [runS_1]
  obtain ⟨v', e, h⟩ := forL_fold (enc := PyData.int) (bind := bindG (.one 3)) (b := S_heads_b0 call w) (fun (a : List Int × Int) x => (a.1 ++ [a.2 + x], a.2 + x)) (fun a v => [some (lisD xs, false), some (lisD a.1, true), some (.int a.2, false), v]) (fun _ _ _ => rfl) (fun k a => a.1.length = k) xs 0 (fun i x a hx ha => by
    have hi := (List.getElem?_eq_some_iff.mp hx).1
    simp at hi ha
    refine ⟨?_, by simp [ha]⟩
    simp [S_heads_b0]
    rw [sAug_int (i := 2) rfl (augI_add ..)]
    simp
    rw [sApp_own (l := 1) rfl (sl' (by simp; omega))]
    simp [lisD]) ([], 0) rfl none
  have key : ∀ (ys : List Int) (f : List Int) (t : Int), (ys.foldl (fun (a : List Int × Int) x => (a.1 ++ [a.2 + x], a.2 + x)) (f, t)).1 = f ++ scan t ys := by
    intro ys
    induction ys with
    | nil => intro f t; simp [scan]
    | cons y ys ih => intro f t; rw [List.foldl_cons, ih]; simp [scan]
  have k2 := key xs [] 0
  simp at k2
  simp [lisD] at e
  simp [startN, lstS, sline, lisD, e, k2, sRetN, ownI, ownDI]
end Py

set_option Elab.async false
set_option linter.all false
set_option maxRecDepth 100000
namespace Py
open PySem
def S_table_of (call : Str → List D → M D) (w : Nat) : List D → M D := runS ⟨false, false⟩ 2 2 fun σ =>
  thenF (sIf σ (cmp1 (rd σ 0) (pure (.str "lr")) .Eq)
  (thenF (sRet (frz σ [0, 1]) (tupS [(pure (.int 1)), (rdV (frz σ [0, 1]) 1)]) false) fun σ =>
    sEnd σ)
  (sEnd σ)) fun σ =>
  thenF (sIf σ (cmp1 (rd σ 0) (tupS [(pure (.str "hr")), (pure (.str "st"))]) .In)
  (thenF (sRet (frz σ [0, 1]) (tupS [(pure (.int 1)), (callS call ("tails" : Str) [(rdV (frz σ [0, 1]) 1)])]) false) fun σ =>
    sEnd σ)
  (sEnd σ)) fun σ =>
  thenF (sIf σ (cmp1 (rd σ 0) (pure (.str "rh")) .Eq)
  (thenF (sRet (frz σ [0, 1]) (tupS [(pure (.int 1)), (callS call ("heads" : Str) [(rdV (frz σ [0, 1]) 1)])]) false) fun σ =>
    sEnd σ)
  (sEnd σ)) fun σ =>
  thenF (sIf σ (cmp1 (rd σ 0) (pure (.str "icv")) .Eq)
  (thenF (sRet (frz σ [0, 1]) (tupS [(pure (.int 1)), (callS call ("heads" : Str) [(callS call ("heads" : Str) [(rdV (frz σ [0, 1]) 1)])])]) false) fun σ =>
    sEnd σ)
  (sEnd σ)) fun σ =>
  thenF (sRet (frz σ [0, 1]) (tupS [(pure (.int 0)), (callS call ("tails" : Str) [(callS call ("tails" : Str) [(rdV (frz σ [0, 1]) 1)])])]) false) fun σ =>
  sEnd σ

def S_fails_pair (call : Str → List D → M D) (w : Nat) : List D → M D := runS ⟨false, false⟩ 4 4 fun σ =>
  thenF (sRet (frz σ [0, 1, 2, 3]) (cmp1 (binS .Mult (ixS (rd (frz σ [0, 1, 2, 3]) 0) (rd (frz σ [0, 1, 2, 3]) 2)) (ixS (rd (frz σ [0, 1, 2, 3]) 1) (rd (frz σ [0, 1, 2, 3]) 3))) (binS .Mult (ixS (rd (frz σ [0, 1, 2, 3]) 0) (rd (frz σ [0, 1, 2, 3]) 3)) (ixS (rd (frz σ [0, 1, 2, 3]) 1) (rd (frz σ [0, 1, 2, 3]) 2))) .Lt) false) fun σ =>
  sEnd σ

def S_fails_place (call : Str → List D → M D) (w : Nat) : List D → M D := runS ⟨false, false⟩ 4 4 fun σ =>
  thenF (sIf σ (cmp1 (rd σ 0) (pure (.str "hmrl")) .Eq)
  (thenF (sRet (frz σ [0, 1, 2, 3]) (cmp1 (binS .Mult (ixS (rd (frz σ [0, 1, 2, 3]) 1) (rd (frz σ [0, 1, 2, 3]) 3)) (ixS (rd (frz σ [0, 1, 2, 3]) 2) (pure (.int 0)))) (binS .Mult (ixS (rd (frz σ [0, 1, 2, 3]) 2) (rd (frz σ [0, 1, 2, 3]) 3)) (ixS (rd (frz σ [0, 1, 2, 3]) 1) (pure (.int 0)))) .Gt) false) fun σ =>
    sEnd σ)
  (sEnd σ)) fun σ =>
  thenF (sRet (frz σ [0, 1, 2, 3]) (ifeS (cmp1 (rd (frz σ [0, 1, 2, 3]) 0) (pure (.str "icv")) .Eq) (cmp1 (ixS (rd (frz σ [0, 1, 2, 3]) 1) (rd (frz σ [0, 1, 2, 3]) 3)) (ixS (rd (frz σ [0, 1, 2, 3]) 2) (rd (frz σ [0, 1, 2, 3]) 3)) .Lt) (cmp1 (ixS (rd (frz σ [0, 1, 2, 3]) 1) (rd (frz σ [0, 1, 2, 3]) 3)) (ixS (rd (frz σ [0, 1, 2, 3]) 2) (rd (frz σ [0, 1, 2, 3]) 3)) .Gt)) false) fun σ =>
  sEnd σ

def S_found_fault_b0 (call : Str → List D → M D) (w : Nat) (σ : St) : M Flow :=
  thenF (sIf σ (callS call ("fails_pair" : Str) [(rdV σ 4), (rdV σ 5), (rdV σ 7), (rdV σ 6)])
  (thenF (sRet (frz σ [0, 1, 2, 3, 4, 5, 6, 7]) (tupS [(rdV (frz σ [0, 1, 2, 3, 4, 5, 6, 7]) 2), (binS .Add (rd (frz σ [0, 1, 2, 3, 4, 5, 6, 7]) 7) (rd (frz σ [0, 1, 2, 3, 4, 5, 6, 7]) 3)), (binS .Add (rd (frz σ [0, 1, 2, 3, 4, 5, 6, 7]) 6) (rd (frz σ [0, 1, 2, 3, 4, 5, 6, 7]) 3))]) false) fun σ =>
    sEnd σ)
  (sEnd σ)) fun σ =>
  sEnd σ
def S_found_fault_b1 (call : Str → List D → M D) (w : Nat) (σ : St) : M Flow :=
  thenF (sIf σ (andS [(cmp1 (rd σ 2) (pure (.tuple [.str "st", .str "hmrl", .str "icx", .str "icv"])) .In), (callS call ("fails_place" : Str) [(rdV σ 2), (rdV σ 4), (rdV σ 5), (rdV σ 6)])])
  (thenF (sRet (frz σ [0, 1, 2, 3, 4, 5, 6, 7]) (tupS [(rdV (frz σ [0, 1, 2, 3, 4, 5, 6, 7]) 2), (binS .Add (rd (frz σ [0, 1, 2, 3, 4, 5, 6, 7]) 6) (rd (frz σ [0, 1, 2, 3, 4, 5, 6, 7]) 3))]) false) fun σ =>
    sEnd σ)
  (sEnd σ)) fun σ =>
  thenF (sIf σ (cmp1 (rd σ 2) (pure (.tuple [.str "lr", .str "hr", .str "rh", .str "mrl"])) .In)
  (thenF (sFor (frz σ [6]) (iterS ("range" : Str) [(rdV (frz σ [6]) 6)]) (.one 7) (S_found_fault_b0 call w)) fun σ =>
    sEnd σ)
  (sEnd σ)) fun σ =>
  sEnd σ
def S_found_fault (call : Str → List D → M D) (w : Nat) : List D → M D := runS ⟨false, false⟩ 3 8 fun σ =>
  thenF (sTup (frz σ [2, 0]) (callS call ("table_of" : Str) [(rdV (frz σ [2, 0]) 2), (rdV (frz σ [2, 0]) 0)]) (.many [3, 4])) fun σ =>
  thenF (sAsg (frz σ [2, 1]) (ixS (callS call ("table_of" : Str) [(rdV (frz σ [2, 1]) 2), (rdV (frz σ [2, 1]) 1)]) (pure (.int 1))) 5 false) fun σ =>
  thenF (sFor σ (iterS ("range" : Str) [(biS ("len" : Str) [(rd σ 4)])]) (.one 6) (S_found_fault_b1 call w)) fun σ =>
  thenF (sRet (frz σ [0, 1, 2, 3, 4, 5, 6, 7]) (pure (.none)) false) fun σ =>
  sEnd σ

/-- the words of tables -/
inductive TW | lr | hr | rh | mrl | st | hmrl | icx | icv
deriving DecidableEq
def TW.nm : TW → Str
  | .lr => "lr" | .hr => "hr" | .rh => "rh" | .mrl => "mrl" | .st => "st" | .hmrl => "hmrl" | .icx => "icx" | .icv => "icv"
def TW.D (t : TW) : Py.D := .str t.nm
def TW.first : TW → Nat
  | .mrl => 0 | .hmrl => 0 | .icx => 0 | _ => 1
def TW.pair : TW → Bool
  | .lr => true | .hr => true | .rh => true | .mrl => true | _ => false
def tabI : TW → List Int → List Int
  | .lr, x => x
  | .hr, x => tl x
  | .st, x => tl x
  | .rh, x => scan 0 x
  | .icv, x => scan 0 (scan 0 x)
  | _, x => tl (tl x)
theorem tabI_len (t : TW) (x : List Int) : (tabI t x).length = x.length := by cases t <;> simp [tabI, tl_len, scan_len]
theorem tl_bt {n : Nat} {xs : List Int} (h : ∀ x ∈ xs, Bt n x) (hl : xs.length < 32) : ∀ e ∈ tl xs, Bt (n + 5) e := by
  intro e he
  obtain ⟨k, hk, rfl⟩ := List.mem_iff_getElem.mp he
  have e1 : (tl xs)[k] = ix (tl xs) k := by simp [ix, hk]
  rw [tl_len] at hk
  rw [e1, tl_get xs k hk]
  exact Bt.sum (m := 5) (by simp; omega) fun x hx => h x (List.mem_of_mem_drop hx)
theorem scan_bt {n : Nat} {xs : List Int} (h : ∀ x ∈ xs, Bt n x) (hl : xs.length < 32) : ∀ e ∈ scan 0 xs, Bt (n + 5) e := by
  intro e he
  obtain ⟨k, hk, rfl⟩ := List.mem_iff_getElem.mp he
  have e1 : (scan 0 xs)[k] = ix (scan 0 xs) k := by simp [ix, hk]
  rw [scan_len] at hk
  rw [e1, scan_get 0 xs k hk, Int.zero_add]
  exact Bt.sum (m := 5) (by simp; omega) fun x hx => h x (List.mem_of_mem_take hx)
theorem tabI_bt {t : TW} {x : List Int} (h : ∀ e ∈ x, Bt 45 e) (hl : x.length < 32) : ∀ e ∈ tabI t x, Bt 60 e := by
  intro e he
  cases t with
  | lr => exact (h e he).mono (by decide)
  | hr => exact (tl_bt h hl e he).mono (by decide)
  | st => exact (tl_bt h hl e he).mono (by decide)
  | rh => exact (scan_bt h hl e he).mono (by decide)
  | icv => exact (scan_bt (scan_bt h hl) (by rw [scan_len]; exact hl) e he).mono (by decide)
  | _ => exact (tl_bt (tl_bt h hl) (by rw [tl_len]; exact hl) e he).mono (by decide)
def Sp_table_of (f : List D → M D) : Prop := ∀ (t : TW) (x : List Int), x.length ≤ 1000 → f [t.D, lisD x] = pure (.tuple [.int (t.first : Int), lisD (tabI t x)])
theorem s_table_of {call : Str → List D → M D} {w : Nat} (h1 : Sp_tails (call "tails")) (h2 : Sp_heads (call "heads")) : Sp_table_of (S_table_of call w) := by
  intro t x hl
  unfold S_table_of
  rw [runS_2]
  have q1 : ∀ t : TW, eqD t.D (.str "lr") = pure (decide (t = .lr)) := fun t => by cases t <;> kernel_rfl
  have q2 : ∀ t : TW, inD t.D (.tuple [.str "hr", .str "st"]) = pure (decide (t = .hr ∨ t = .st)) := fun t => by cases t <;> kernel_rfl
  have q3 : ∀ t : TW, eqD t.D (.str "rh") = pure (decide (t = .rh)) := fun t => by cases t <;> kernel_rfl
  have q4 : ∀ t : TW, eqD t.D (.str "icv") = pure (decide (t = .icv)) := fun t => by cases t <;> kernel_rfl
  have a1 := h1 x hl
  have a2 := h2 x hl
  have a3 := h1 (tl x) (by rw [tl_len]; exact hl)
  have a4 := h2 (scan 0 x) (by rw [scan_len]; exact hl)
  cases t <;> simp [startN, q1, q2, q3, q4, tupS, sline, callS, a1, a2, a3, a4, tabI, TW.first]
/-- where two tables fail -/
def badB (t : TW) (a b : List Int) (i k : Nat) : Bool := match t with
  | .hmrl => decide (ix b k * ix a 0 < ix a k * ix b 0)
  | .icv => decide (ix a k < ix b k)
  | .st => decide (ix b k < ix a k)
  | .icx => decide (ix b k < ix a k)
  | _ => decide (ix a i * ix b k < ix a k * ix b i)
def Sp_fails_pair (f : List D → M D) : Prop := ∀ (a b : List Int) (i k : Nat), (∀ e ∈ a, Bt 60 e) → (∀ e ∈ b, Bt 60 e) → b.length = a.length → i < a.length → k < a.length → f [lisD a, lisD b, .int (i : Int), .int (k : Int)] = pure (.bool (decide (ix a i * ix b k < ix a k * ix b i)))
theorem s_fails_pair {call : Str → List D → M D} {w : Nat} : Sp_fails_pair (S_fails_pair call w) := by
  intro a b i k ha hb hl hi hk
  unfold S_fails_pair
  rw [runS_4]
  simp [startN, lisD, getL_N hi, getL_N hk, getL_N (show i < b.length by omega), getL_N (show k < b.length by omega), bmul (ixB ha hi) (ixB hb (show k < b.length by omega)), bmul (ixB ha hk) (ixB hb (show i < b.length by omega))]
def Sp_fails_place (f : List D → M D) : Prop := ∀ (t : TW) (a b : List Int) (k : Nat), t.pair = false → (∀ e ∈ a, Bt 60 e) → (∀ e ∈ b, Bt 60 e) → b.length = a.length → k < a.length → f [t.D, lisD a, lisD b, .int (k : Int)] = pure (.bool (badB t a b 0 k))
theorem s_fails_place {call : Str → List D → M D} {w : Nat} : Sp_fails_place (S_fails_place call w) := by
  intro t a b k ht ha hb hl hk
  unfold S_fails_place
  rw [runS_4]
  have q1 : ∀ t : TW, eqD t.D (.str "hmrl") = pure (decide (t = .hmrl)) := fun t => by cases t <;> kernel_rfl
  have q4 : ∀ t : TW, eqD t.D (.str "icv") = pure (decide (t = .icv)) := fun t => by cases t <;> kernel_rfl
  have z1 : getD' (.list (a.map .int)) (.int 0) = pure (.int (ix a 0)) := getL_N (i := 0) (by omega)
  have z2 : getD' (.list (b.map .int)) (.int 0) = pure (.int (ix b 0)) := getL_N (i := 0) (by omega)
  have y1 : Bt 60 (ix a 0) := ixB ha (show 0 < a.length by omega)
  have y2 : Bt 60 (ix b 0) := ixB hb (show 0 < b.length by omega)
  have m1 := bmul (ixB ha hk) y2
  have m2 := bmul (ixB hb (show k < b.length by omega)) y1
  cases t <;> simp [TW.pair] at ht <;> simp [startN, q1, q4, lisD, getL_N hk, getL_N (show k < b.length by omega), z1, z2, m1, m2, badB]
/-- whether x is not at most y by a word of tables -/
def failT (t : TW) (x y : List Int) : Bool := if t.pair = true then (List.range x.length).any fun k => (List.range k).any fun i => badB t (tabI t x) (tabI t y) i k else (List.range x.length).any fun k => badB t (tabI t x) (tabI t y) 0 k
def objT (t : TW) (x y : List Int) (d : D) : Prop := (t.pair = true ∧ ∃ i k, i < k ∧ k < x.length ∧ badB t (tabI t x) (tabI t y) i k = true ∧ d = .tuple [t.D, .int (((i + t.first : Nat)) : Int), .int (((k + t.first : Nat)) : Int)]) ∨ (t.pair = false ∧ ∃ k, k < x.length ∧ badB t (tabI t x) (tabI t y) 0 k = true ∧ d = .tuple [t.D, .int (((k + t.first : Nat)) : Int)])
def FR (t : TW) (x y : List Int) (d : D) : Prop := (d = .none ∧ failT t x y = false) ∨ (failT t x y = true ∧ objT t x y d)
structure Rw (x y : List Int) : Prop where
  len : y.length = x.length
  one : 1 ≤ x.length
  most : x.length ≤ 30
  bx : ∀ e ∈ x, Bt 45 e
  bY : ∀ e ∈ y, Bt 45 e
theorem badB_pair {t : TW} (h : t.pair = true) (a b : List Int) (i k : Nat) : badB t a b i k = decide (ix a i * ix b k < ix a k * ix b i) := by cases t <;> simp [TW.pair] at h <;> rfl
theorem badB_place {t : TW} (h : t.pair = false) (a b : List Int) (i j k : Nat) : badB t a b i k = badB t a b j k := by cases t <;> simp [TW.pair] at h <;> rfl
def Sp_found_fault (f : List D → M D) : Prop := ∀ (t : TW) (x y : List Int), Rw x y → ∃ d, f [lisD x, lisD y, t.D] = pure d ∧ FR t x y d
theorem s_found_fault {call : Str → List D → M D} {w : Nat} (h1 : Sp_table_of (call "table_of")) (h2 : Sp_fails_place (call "fails_place")) (h3 : Sp_fails_pair (call "fails_pair")) : Sp_found_fault (S_found_fault call w) := by
  intro t x y hr
  have lx := hr.most
  have ly := hr.len
  have ha := tabI_bt (t := t) hr.bx (by omega)
  have hb := tabI_bt (t := t) hr.bY (by omega)
  have la := tabI_len t x
  have lb := tabI_len t y
  have e1 := h1 t x (by omega)
  have e2 := h1 t y (by omega)
  have p1 : inD t.D (.tuple [.str "st", .str "hmrl", .str "icx", .str "icv"]) = pure (!t.pair) := by cases t <;> kernel_rfl
  have p2 : inD t.D (.tuple [.str "lr", .str "hr", .str "rh", .str "mrl"]) = pure t.pair := by cases t <;> kernel_rfl
  let st : Sl × Sl → St := fun v => [some (lisD x, false), some (lisD y, false), some (t.D, false), some (.int (t.first : Int), false), some (lisD (tabI t x), false), some (lisD (tabI t y), false), v.1, v.2]
  have hrg := rangeN (n := x.length) (by omega)
  unfold S_found_fault
  rw [runS_3]
  have one_get : getD' (.tuple [.int (t.first : Int), lisD (tabI t y)]) (.int 1) = pure (lisD (tabI t y)) := getT_one ..
  have go : startN 8 [lisD x, lisD y, t.D] = [some (lisD x, false), some (lisD y, false), some (t.D, false), none, none, none, none, none] := rfl
  have hlen : ((tabI t x).length : Int) = (x.length : Int) := by rw [la]
  cases hp : t.pair with
  | false =>
    have body : ∀ k ∈ List.range x.length, ∀ v, ∃ σ1, bindG (.one 6) (st v) (.int (k : Int)) = some σ1 ∧ (badB t (tabI t x) (tabI t y) 0 k = true → S_found_fault_b1 call w σ1 = pure (.ret (.tuple [t.D, .int (((k + t.first : Nat)) : Int)]) false)) ∧ (badB t (tabI t x) (tabI t y) 0 k = false → ∃ v', S_found_fault_b1 call w σ1 = pure (.nx (st v'))) := by
      intro k hk v
      have hk := List.mem_range.mp hk
      have e := h2 t (tabI t x) (tabI t y) k hp ha hb (by omega) (by omega)
      refine ⟨_, rfl, fun hbad => ?_, fun hbad => ⟨(some (.int (k : Int), false), v.2), ?_⟩⟩
      · rw [hbad] at e
        simp [S_found_fault_b1, st, p1, p2, hp, callS, e, tupS, sline]
      · rw [hbad] at e
        simp [S_found_fault_b1, st, p1, p2, hp, callS, e]
    rcases forL_findG (enc := fun (k : Nat) => PyData.int (k : Int)) (fun k => badB t (tabI t x) (tabI t y) 0 k) (fun k => (.tuple [t.D, .int (((k + t.first : Nat)) : Int)], false)) st (List.range x.length) body (none, none) with ⟨k, hf, e⟩ | ⟨hf, v', e⟩
    · refine ⟨.tuple [t.D, .int (((k + t.first : Nat)) : Int)], ?_, .inr ⟨?_, .inr ⟨hp, k, List.mem_range.mp (List.mem_of_find?_eq_some hf), List.find?_some hf, rfl⟩⟩⟩
      · simp [st] at e
        simp [startN, callS, e1, e2, one_get, biS, hlen, iterS, hrg, e]
      · unfold failT
        rw [hp, if_neg (by decide), List.any_eq_true]
        exact ⟨k, List.mem_of_find?_eq_some hf, List.find?_some hf⟩
    · refine ⟨.none, ?_, .inl ⟨rfl, ?_⟩⟩
      · simp [st] at e
        simp [startN, callS, e1, e2, one_get, biS, hlen, iterS, hrg, e]
      · unfold failT
        rw [hp, if_neg (by decide), List.any_eq_false]
        exact List.find?_eq_none.mp hf
  | true =>
    have inner : ∀ k, k < x.length → ∀ v, (∃ i, (List.range k).find? (fun i => badB t (tabI t x) (tabI t y) i k) = some i ∧ forL (bindG (.one 7)) (S_found_fault_b0 call w) ((List.range k).map fun (i : Nat) => PyData.int (i : Int)) (st (some (.int (k : Int), false), v)) = pure (.ret (.tuple [t.D, .int (((i + t.first : Nat)) : Int), .int (((k + t.first : Nat)) : Int)]) false)) ∨
        ((List.range k).find? (fun i => badB t (tabI t x) (tabI t y) i k) = none ∧ ∃ v', forL (bindG (.one 7)) (S_found_fault_b0 call w) ((List.range k).map fun (i : Nat) => PyData.int (i : Int)) (st (some (.int (k : Int), false), v)) = pure (.nx (st (some (.int (k : Int), false), v')))) := by
      intro k hk v
      refine forL_findG (enc := fun (i : Nat) => PyData.int (i : Int)) (fun i => badB t (tabI t x) (tabI t y) i k) (fun i => (.tuple [t.D, .int (((i + t.first : Nat)) : Int), .int (((k + t.first : Nat)) : Int)], false)) (fun v => st (some (.int (k : Int), false), v)) (List.range k) (fun i hi v => ?_) v
      have hi := List.mem_range.mp hi
      have e := h3 (tabI t x) (tabI t y) i k ha hb (by omega) (by omega) (by omega)
      rw [← badB_pair hp] at e
      refine ⟨_, rfl, fun hbad => ?_, fun hbad => ⟨some (.int (i : Int), false), ?_⟩⟩
      · rw [hbad] at e
        simp [S_found_fault_b0, st, callS, e, tupS, sline]
      · rw [hbad] at e
        simp [S_found_fault_b0, st, callS, e]
    have body : ∀ k ∈ List.range x.length, ∀ v, ∃ σ1, bindG (.one 6) (st v) (.int (k : Int)) = some σ1 ∧ (((List.range k).any fun i => badB t (tabI t x) (tabI t y) i k) = true → S_found_fault_b1 call w σ1 = pure (.ret (.tuple [t.D, .int (((((List.range k).find? (fun i => badB t (tabI t x) (tabI t y) i k)).getD 0 + t.first : Nat)) : Int), .int (((k + t.first : Nat)) : Int)]) false)) ∧
        (((List.range k).any fun i => badB t (tabI t x) (tabI t y) i k) = false → ∃ v', S_found_fault_b1 call w σ1 = pure (.nx (st v'))) := by
      intro k hk v
      have hk := List.mem_range.mp hk
      have hrk := rangeN (n := k) (by omega)
      refine ⟨_, rfl, fun hbad => ?_, fun hbad => ?_⟩
      · rcases inner k hk v.2 with ⟨i, hf, e⟩ | ⟨hf, v', e⟩
        · rw [hf]
          simp [st] at e
          simp [S_found_fault_b1, st, p1, p2, hp, iterS, hrk, e]
        · rw [List.any_eq_true] at hbad
          obtain ⟨i, hi, hbi⟩ := hbad
          exact absurd hbi (List.find?_eq_none.mp hf i hi)
      · rcases inner k hk v.2 with ⟨i, hf, e⟩ | ⟨hf, v', e⟩
        · rw [List.any_eq_false] at hbad
          exact absurd (List.find?_some hf) (hbad i (List.mem_of_find?_eq_some hf))
        · refine ⟨(some (.int (k : Int), false), v'), ?_⟩
          simp [st] at e
          simp [S_found_fault_b1, st, p1, p2, hp, iterS, hrk, e]
    rcases forL_findG (enc := fun (k : Nat) => PyData.int (k : Int)) (fun k => (List.range k).any fun i => badB t (tabI t x) (tabI t y) i k) (fun k => (.tuple [t.D, .int (((((List.range k).find? (fun i => badB t (tabI t x) (tabI t y) i k)).getD 0 + t.first : Nat)) : Int), .int (((k + t.first : Nat)) : Int)], false)) st (List.range x.length) body (none, none) with ⟨k, hf, e⟩ | ⟨hf, v', e⟩
    · have hk := List.mem_range.mp (List.mem_of_find?_eq_some hf)
      have hany := List.find?_some hf
      obtain ⟨i, hfi⟩ : ∃ i, (List.range k).find? (fun i => badB t (tabI t x) (tabI t y) i k) = some i := by
        cases hh : (List.range k).find? (fun i => badB t (tabI t x) (tabI t y) i k) with
        | some i => exact ⟨i, rfl⟩
        | none =>
          have hany : ((List.range k).any fun i => badB t (tabI t x) (tabI t y) i k) = true := hany
          rw [List.any_eq_true] at hany
          obtain ⟨i, hi, hbi⟩ := hany
          exact absurd hbi (List.find?_eq_none.mp hh i hi)
      rw [hfi] at e
      refine ⟨.tuple [t.D, .int (((i + t.first : Nat)) : Int), .int (((k + t.first : Nat)) : Int)], ?_, .inr ⟨?_, .inl ⟨hp, i, k, List.mem_range.mp (List.mem_of_find?_eq_some hfi), hk, (List.find?_some (p := fun i => badB t (tabI t x) (tabI t y) i k) hfi), rfl⟩⟩⟩
      · simp [st] at e
        simp [startN, callS, e1, e2, one_get, biS, hlen, iterS, hrg, e]
      · unfold failT
        rw [hp, if_pos rfl, List.any_eq_true]
        exact ⟨k, List.mem_of_find?_eq_some hf, hany⟩
    · refine ⟨.none, ?_, .inl ⟨rfl, ?_⟩⟩
      · simp [st] at e
        simp [startN, callS, e1, e2, one_get, biS, hlen, iterS, hrg, e]
      · unfold failT
        rw [hp, if_pos rfl, List.any_eq_false]
        exact List.find?_eq_none.mp hf
end Py

set_option Elab.async false
set_option linter.all false
set_option maxRecDepth 100000
namespace Py
open PySem
def S_wins_b0 (call : Str → List D → M D) (w : Nat) (σ : St) : M Flow :=
  thenF (sAug σ 2 .Add (binS .Mult (rd σ 5) (binS .Sub (ifeS (cmp1 (rd σ 4) (pure (.int 0)) .Gt) (ixS (rd σ 3) (binS .Sub (rd σ 4) (pure (.int 1)))) (pure (.int 0))) (binS .Sub (ixS (rd σ 3) (negS (pure (.int 1)))) (ixS (rd σ 3) (rd σ 4)))))) fun σ =>
  sEnd σ
def S_wins (call : Str → List D → M D) (w : Nat) : List D → M D := runS ⟨false, false⟩ 2 6 fun σ =>
  thenF (sParN (frz σ [0]) [false, false] [(pure (.int 0)), (callS call ("heads" : Str) [(rdV (frz σ [0]) 0)])] [2, 3]) fun σ =>
  thenF (sFor (frz σ [1]) (iterS ("enumerate" : Str) [(rdV (frz σ [1]) 1)]) (.many [4, 5]) (S_wins_b0 call w)) fun σ =>
  thenF (sRetN σ 2) fun σ =>
  sEnd σ

def S_middle_place_i0 (call : Str → List D → M D) (w : Nat) (σ : St) : M Bool :=
  tstS (cmp1 (binS .Mult (pure (.int 2)) (rd σ 2)) (biS ("sum" : Str) [(rd σ 0)]) .GtE)
def S_middle_place_e1 (call : Str → List D → M D) (w : Nat) (σ : St) : M D :=
  (rdV σ 1)
def S_middle_place (call : Str → List D → M D) (w : Nat) : List D → M D := runS ⟨false, false⟩ 1 3 fun σ =>
  thenF (sRet (frz σ [0]) (ixS (compS (iterS ("enumerate" : Str) [(callS call ("heads" : Str) [(rdV (frz σ [0]) 0)])]) (fun d => bindG (.many [1, 2]) (wipe (frz σ [0]) [1, 2]) d) (S_middle_place_i0 call w) (S_middle_place_e1 call w)) (pure (.int 0))) false) fun σ =>
  sEnd σ

def S_falls_i0 (call : Str → List D → M D) (w : Nat) (σ : St) : M Bool :=
  tstS (cmp1 (rd σ 6) (pure (.int 0)) .Gt)
def S_falls_e1 (call : Str → List D → M D) (w : Nat) (σ : St) : M D :=
  (rdV σ 5)
def S_falls_e2 (call : Str → List D → M D) (w : Nat) (σ : St) : M D :=
  (compS (iterS ("enumerate" : Str) [(rd σ 4)]) (fun d => bindG (.many [5, 6]) (wipe σ [5, 6]) d) (S_falls_i0 call w) (S_falls_e1 call w))
def S_falls (call : Str → List D → M D) (w : Nat) : List D → M D := runS ⟨false, false⟩ 3 7 fun σ =>
  thenF (sIf σ (cmp1 (rd σ 2) (pure (.str "mean")) .Eq)
  (thenF (sRet (frz σ [0, 1, 2, 3]) (cmp1 (biS ("sum" : Str) [(callS call ("tails" : Str) [(rdV (frz σ [0, 1, 2, 3]) 0)])]) (biS ("sum" : Str) [(callS call ("tails" : Str) [(rdV (frz σ [0, 1, 2, 3]) 1)])]) .Gt) false) fun σ =>
    sEnd σ)
  (sEnd σ)) fun σ =>
  thenF (sIf σ (cmp1 (rd σ 2) (pure (.str "pr")) .Eq)
  (thenF (sRet (frz σ [0, 1, 2, 3]) (cmp1 (callS call ("wins" : Str) [(rdV (frz σ [0, 1, 2, 3]) 0), (rdV (frz σ [0, 1, 2, 3]) 1)]) (pure (.int 0)) .Lt) false) fun σ =>
    sEnd σ)
  (sEnd σ)) fun σ =>
  thenF (sIf σ (cmp1 (rd σ 2) (pure (.str "median")) .Eq)
  (thenF (sRet (frz σ [0, 1, 2, 3]) (cmp1 (callS call ("middle_place" : Str) [(rdV (frz σ [0, 1, 2, 3]) 0)]) (callS call ("middle_place" : Str) [(rdV (frz σ [0, 1, 2, 3]) 1)]) .Gt) false) fun σ =>
    sEnd σ)
  (sEnd σ)) fun σ =>
  thenF (sAsg (frz σ [0, 1]) (compS (dataI (tupS [(rdV (frz σ [0, 1]) 0), (rdV (frz σ [0, 1]) 1)])) (fun d => bindG (.one 4) (wipe (frz σ [0, 1]) [4]) d) (fun _ => pure true) (S_falls_e2 call w)) 3 true) fun σ =>
  thenF (sRet (frz σ [0, 1, 2, 3]) (ifeS (cmp1 (rd (frz σ [0, 1, 2, 3]) 2) (pure (.str "least")) .Eq) (cmp1 (ixS (ixS (rd (frz σ [0, 1, 2, 3]) 3) (pure (.int 0))) (pure (.int 0))) (ixS (ixS (rd (frz σ [0, 1, 2, 3]) 3) (pure (.int 1))) (pure (.int 0))) .Gt) (cmp1 (ixS (ixS (rd (frz σ [0, 1, 2, 3]) 3) (pure (.int 0))) (negS (pure (.int 1)))) (ixS (ixS (rd (frz σ [0, 1, 2, 3]) 3) (pure (.int 1))) (negS (pure (.int 1)))) .Gt)) false) fun σ =>
  sEnd σ

/-- the words of one number -/
inductive OW | mean | pr | median | least | most
deriving DecidableEq
def OW.nm : OW → Str
  | .mean => "mean" | .pr => "pr" | .median => "median" | .least => "least" | .most => "most"
def OW.D (t : OW) : Py.D := .str t.nm
structure RwN (x y : List Int) : Prop extends Rw x y where
  nx : ∀ e ∈ x, 0 ≤ e
  nY : ∀ e ∈ y, 0 ≤ e
  px : 0 < x.sum
  pY : 0 < y.sum
theorem Rw.flip {x y : List Int} (h : Rw x y) : Rw y x := ⟨h.len.symm, by have := h.len; have := h.one; omega, by have := h.len; have := h.most; omega, h.bY, h.bx⟩
theorem RwN.flip {x y : List Int} (h : RwN x y) : RwN y x := ⟨h.toRw.flip, h.nY, h.nx, h.pY, h.px⟩
def winsI (x y : List Int) : Int := sumR x.length fun k => ix x k * ((y.drop (k + 1)).sum - (y.take k).sum)
def medL (x : List Int) : List Nat := (List.range x.length).filter fun k => decide (x.sum ≤ 2 * (x.take (k + 1)).sum)
def posL (x : List Int) : List Nat := (List.range x.length).filter fun k => decide (0 < ix x k)
def meanI (x : List Int) : Int := sumR x.length fun k => ((k : Int) + 1) * ix x k
def failO (o : OW) (x y : List Int) : Bool := match o with
  | .mean => decide (meanI y < meanI x)
  | .pr => decide (winsI x y < 0)
  | .median => decide ((medL y).headD 0 < (medL x).headD 0)
  | .least => decide ((posL y).headD 0 < (posL x).headD 0)
  | .most => decide ((posL y).getLastD 0 < (posL x).getLastD 0)
theorem take_sumR : ∀ (x : List Int) (k : Nat), (x.take k).sum = sumR x.length fun i => if i < k then ix x i else 0
  | [], k => by simp
  | x :: xs, 0 => by simp [sumR_const0]
  | x :: xs, k + 1 => by
    rw [List.length_cons, sumR_front]
    simp only [List.take_succ_cons, List.sum_cons, take_sumR xs k, Nat.zero_lt_succ, if_true, Nat.add_lt_add_iff_right]
    rfl
theorem drop_sum (x : List Int) (k : Nat) : (x.drop k).sum = x.sum - (x.take k).sum := by
  have := congrArg List.sum (List.take_append_drop k x)
  rw [List.sum_append] at this
  omega
def sg (i k : Nat) : Int := if i < k then 1 else if k < i then -1 else 0
theorem low_up (x : List Int) (k : Nat) : (x.take k).sum - (x.sum - (x.take (k + 1)).sum) = sumR x.length fun i => ix x i * sg i k := by
  rw [take_sumR x k, take_sumR x (k + 1), sum_ix x, ← sumR_sub, ← sumR_sub]
  refine sumR_congr fun i _ => ?_
  unfold sg
  by_cases h1 : i < k
  · rw [if_pos h1, if_pos (by omega), if_pos h1]; omega
  · by_cases h2 : k < i
    · rw [if_neg h1, if_neg (by omega), if_neg h1, if_pos h2]; omega
    · rw [if_neg h1, if_pos (by omega), if_neg h1, if_neg h2]; omega
theorem up_low (y : List Int) (k : Nat) : (y.drop (k + 1)).sum - (y.take k).sum = sumR y.length fun j => ix y j * sg k j := by
  rw [drop_sum, take_sumR y k, take_sumR y (k + 1), sum_ix y, ← sumR_sub, ← sumR_sub]
  refine sumR_congr fun i _ => ?_
  unfold sg
  by_cases h1 : i < k
  · rw [if_pos h1, if_pos (by omega), if_neg (by omega), if_pos h1]; omega
  · by_cases h2 : k < i
    · rw [if_neg h1, if_neg (by omega), if_pos h2]; omega
    · rw [if_neg h1, if_pos (by omega), if_neg h2, if_neg h1]; omega
theorem wins_eq {x y : List Int} (hl : y.length = x.length) : sumR y.length (fun k => ix y k * ((x.take k).sum - (x.sum - (x.take (k + 1)).sum))) = winsI x y := by
  unfold winsI
  rw [sumR_congr (g := fun k => sumR x.length fun i => ix y k * (ix x i * sg i k)) fun k _ => by rw [low_up, sumR_mul], sumR_congr (n := x.length) (g := fun i => sumR y.length fun j => ix x i * (ix y j * sg i j)) fun k _ => by rw [up_low, sumR_mul], sumR_swap]
  refine sumR_congr fun i _ => sumR_congr fun j _ => ?_
  rw [← Int.mul_assoc, ← Int.mul_assoc, Int.mul_comm (ix y j)]
def Sp_wins (f : List D → M D) : Prop := ∀ x y : List Int, Rw x y → f [lisD x, lisD y] = pure (.int (winsI x y))
theorem s_wins {call : Str → List D → M D} {w : Nat} (h1 : Sp_heads (call "heads")) : Sp_wins (S_wins call w) := by
  intro x y hr
  have lx := hr.most
  have l1 := hr.one
  have ly := hr.len
  unfold S_wins
  rw [runS_2]
  have e1 := h1 x (by omega)
  have hb := scan_bt hr.bx (by omega)
  have hlast : getD' (.list ((scan 0 x).map .int)) (.int (-1)) = pure (.int x.sum) := by
    refine getL_last ?_
    rw [List.getLast?_map, List.getLast?_eq_getElem?]
    have h := ix_get (xs := scan 0 x) (i := ((x.length - 1 : Nat) : Int)) (by omega) (by rw [scan_len]; omega)
    rw [Int.toNat_natCast, scan_get 0 x _ (by omega), show x.length - 1 + 1 = x.length by omega, List.take_length] at h
    rw [scan_len, h]
    simp
  obtain ⟨⟨z1, z2⟩, e, _⟩ := forL_foldG (enc := fun (i : Nat) => PyData.tuple [.int (i : Int), .int (ix y i)]) (bind := bindG (.many [4, 5])) (b := S_wins_b0 call w) (fun (a : Int) k => a + ix y k * ((x.take k).sum - (x.sum - (x.take (k + 1)).sum)))
    (fun a (v : Sl × Sl) => [some (lisD x, false), some (lisD y, false), some (.int a, false), some (lisD (scan 0 x), false), v.1, v.2]) (fun _ => True) (List.range y.length)
    (fun k hk a v _ => by
      have hk := List.mem_range.mp hk
      refine ⟨_, rfl, ⟨(some (.int (k : Int), false), some (.int (ix y k), false)), ?_⟩, trivial⟩
      have q1 := getL_N (xs := scan 0 x) (i := k) (by rw [scan_len]; omega)
      rw [scan_get 0 x k (by omega), Int.zero_add] at q1
      have q0 : (ifeS (pure (.bool (decide (0 < (k : Int))))) (getD' (.list ((scan 0 x).map .int)) (.int ((k : Int) - 1))) (pure (.int 0)) : M D) = pure (.int (x.take k).sum) := by
        by_cases h0 : 0 < k
        · have q := getL_N (xs := scan 0 x) (i := k - 1) (by rw [scan_len]; omega)
          rw [scan_get 0 x (k - 1) (by omega), Int.zero_add, show k - 1 + 1 = k by omega, show ((k - 1 : Nat) : Int) = (k : Int) - 1 by omega] at q
          simp [h0, q]
        · have : k = 0 := by omega
          subst this
          simp
      have m1 : Bt 52 ((x.take k).sum - (x.sum - (x.take (k + 1)).sum)) := by
        have t1 : Bt 50 (x.take k).sum := Bt.sum (m := 5) (by simp; omega) fun e he => hr.bx e (List.mem_of_mem_take he)
        have t2 : Bt 50 (x.take (k + 1)).sum := Bt.sum (m := 5) (by simp; omega) fun e he => hr.bx e (List.mem_of_mem_take he)
        have t3 : Bt 50 x.sum := Bt.sum (m := 5) (by omega) hr.bx
        unfold Bt at *
        omega
      have m2 := bmul (ixB hr.bY hk) m1
      have q3 := sAug_int (σ := [some (lisD x, false), some (lisD y, false), some (.int a, false), some (lisD (scan 0 x), false), some (.int (k : Int), false), some (.int (ix y k), false)]) (i := 2) (op := .Add) (a := a) (b := ix y k * ((x.take k).sum - (x.sum - (x.take (k + 1)).sum))) (o := false) rfl (augI_add ..)
      simp [lisD] at q0 q1 q3
      simp [S_wins_b0, lisD, q0, q1, hlast, m2, q3]) 0 trivial (none, none)
  rw [foldl_sumR, wins_eq ly, Int.zero_add] at e
  simp [lisD] at e e1
  simp [startN, lisD, callS, e1, iterS, enum_R, e, sRetN, ownI, ownDI, rdV]
theorem medL_ne {x : List Int} (h1 : 1 ≤ x.length) (h : 0 < x.sum) : medL x ≠ [] := by
  intro e
  have : x.length - 1 ∈ medL x := by
    unfold medL
    rw [List.mem_filter]
    refine ⟨List.mem_range.mpr (by omega), ?_⟩
    rw [show x.length - 1 + 1 = x.length by omega, List.take_length]
    simp
    omega
  rw [e] at this
  cases this
theorem posL_ne {x : List Int} (h : 0 < x.sum) : posL x ≠ [] := by
  intro e
  obtain ⟨k, hk, h0⟩ : ∃ k, k < x.length ∧ 0 < ix x k := by
    induction x with
    | nil => simp at h
    | cons y r ih =>
      by_cases hy : 0 < y
      · exact ⟨0, by simp, hy⟩
      · by_cases he : posL r = []
        · obtain ⟨k, hk, h0⟩ := ih (by rw [List.sum_cons] at h; omega) he
          exact ⟨k + 1, by simpa using hk, h0⟩
        · obtain ⟨k, hk⟩ := List.exists_mem_of_ne_nil _ he
          unfold posL at hk
          rw [List.mem_filter] at hk
          exact ⟨k + 1, by simpa using List.mem_range.mp hk.1, by rw [ix_cons_succ]; simpa using hk.2⟩
  have : k ∈ posL x := by
    unfold posL
    rw [List.mem_filter]
    exact ⟨List.mem_range.mpr hk, by simpa using h0⟩
  rw [e] at this
  cases this
def Sp_middle_place (f : List D → M D) : Prop := ∀ x : List Int, 1 ≤ x.length → x.length ≤ 30 → 0 < x.sum → (∀ e ∈ x, Bt 45 e) → f [lisD x] = pure (.int ((medL x).headD 0 : Nat))
theorem s_middle_place {call : Str → List D → M D} {w : Nat} (h1 : Sp_heads (call "heads")) : Sp_middle_place (S_middle_place call w) := by
  intro x l1 lx hs hb
  unfold S_middle_place
  rw [runS_1]
  have e1 := h1 x (by omega)
  simp [lisD] at e1
  simp [startN, lisD, callS, e1, iterS, enum_R]
  rw [compS_filter (List.range x.length) (fun (i : Nat) => PyData.tuple [.int (i : Int), .int (ix (scan 0 x) i)]) (fun (i : Nat) => .int (i : Int)) (fun k => decide (x.sum ≤ 2 * (x.take (k + 1)).sum)) (by simp [scan_len]) (sl (by simp; omega)) fun k hk => ⟨_, rfl, by
    have hk := List.mem_range.mp hk
    have t2 : Bt 50 (x.take (k + 1)).sum := Bt.sum (m := 5) (by simp; omega) fun e he => hb e (List.mem_of_mem_take he)
    have m := bmul (i := 2) (j := (x.take (k + 1)).sum) (n := 2) (Bt.of_lt (by decide) (by decide)) t2
    rw [scan_get 0 x k hk, Int.zero_add]
    simp [S_middle_place_i0, lisD, biS, m], fun _ => by simp [S_middle_place_e1]⟩]
  have hg := get_headN (medL_ne l1 hs)
  unfold medL at hg
  simp
  rw [hg]
  simp [medL]
def Sp_falls (f : List D → M D) : Prop := ∀ (o : OW) (x y : List Int), RwN x y → f [lisD x, lisD y, o.D] = pure (.bool (failO o x y))
theorem s_falls {call : Str → List D → M D} {w : Nat} (h1 : Sp_tails (call "tails")) (h2 : Sp_wins (call "wins")) (h3 : Sp_middle_place (call "middle_place")) : Sp_falls (S_falls call w) := by
  intro o x y hr
  have lx := hr.most
  have l1 := hr.one
  have ly := hr.len
  unfold S_falls
  rw [runS_3]
  have q1 : ∀ t : OW, eqD t.D (.str "mean") = pure (decide (t = .mean)) := fun t => by cases t <;> kernel_rfl
  have q2 : ∀ t : OW, eqD t.D (.str "pr") = pure (decide (t = .pr)) := fun t => by cases t <;> kernel_rfl
  have q3 : ∀ t : OW, eqD t.D (.str "median") = pure (decide (t = .median)) := fun t => by cases t <;> kernel_rfl
  have q4 : ∀ t : OW, eqD t.D (.str "least") = pure (decide (t = .least)) := fun t => by cases t <;> kernel_rfl
  have e1 := h1 x (by omega)
  have e2 := h1 y (by omega)
  have e3 := h2 x y hr.toRw
  have e4 := h3 x l1 lx hr.px hr.bx
  have e5 := h3 y (by omega) (by omega) hr.pY hr.bY
  have t1 := tl_sum x
  have t2 := tl_sum y
  rw [show sumR x.length (fun i => ((i : Int) + 1) * ix x i) = meanI x from rfl] at t1
  rw [show sumR y.length (fun i => ((i : Int) + 1) * ix y i) = meanI y from rfl] at t2
  have inner : ∀ (z : List Int) (σ : St), z.length ≤ 30 → σ.length = 7 → σ[4]? = some (some (lisD z, false)) → S_falls_e2 call w σ = pure (.list ((posL z).map fun (k : Nat) => .int (k : Int))) := by
    intro z σ hz hs h4
    have r4 : rd σ 4 = pure (lisD z) := by rw [rd_def, h4]
    unfold S_falls_e2
    rw [r4]
    simp [iterS, lisD, enum_R]
    rw [compS_filter (List.range z.length) (fun (i : Nat) => PyData.tuple [.int (i : Int), .int (ix z i)]) (fun (i : Nat) => .int (i : Int)) (fun k => decide (0 < ix z k)) rfl (sl (by simp; omega)) fun k hk => ⟨((wipe σ [5, 6]).set 5 (some (.int (k : Int), false))).set 6 (some (.int (ix z k), false)), rfl, by
      simp [S_falls_i0, rd_def, hs], fun _ => by simp [S_falls_e1, rdV, hs, List.getElem?_set]⟩]
    rfl
  cases o with
  | mean => simp [startN, q1, callS, e1, e2, biS, lisD, t1, t2, failO]
  | pr => simp [startN, q1, q2, callS, e3, failO]
  | median => simp [startN, q1, q2, q3, callS, e4, e5, failO]
  | least =>
    simp [startN, q1, q2, q3, tupS, sline]
    rw [compS_map (items := pure [lisD x, lisD y]) [x, y] lisD (fun z => .list ((posL z).map fun (k : Nat) => .int (k : Int))) rfl (sl (by simp)) fun z hz => ⟨_, rfl, inner z _ (by simp at hz; rcases hz with rfl | rfl <;> omega) rfl rfl⟩]
    simp [q4, get_headN (posL_ne hr.px), get_headN (posL_ne hr.pY), failO]
  | most =>
    simp [startN, q1, q2, q3, tupS, sline]
    rw [compS_map (items := pure [lisD x, lisD y]) [x, y] lisD (fun z => .list ((posL z).map fun (k : Nat) => .int (k : Int))) rfl (sl (by simp)) fun z hz => ⟨_, rfl, inner z _ (by simp at hz; rcases hz with rfl | rfl <;> omega) rfl rfl⟩]
    simp [q4, get_lastN (posL_ne hr.px), get_lastN (posL_ne hr.pY), failO]
end Py

set_option Elab.async false
set_option linter.all false
set_option maxRecDepth 100000
namespace Py
open PySem
def S_check_word (call : Str → List D → M D) (w : Nat) : List D → M D := runS ⟨false, false⟩ 1 1 fun σ =>
  thenF (sIf σ (orS [(notS (isiS (rd σ 0) ("str" : Str))), (cmp1 (rd σ 0) (pure (.tuple [.str "lr", .str "hr", .str "rh", .str "st", .str "mrl", .str "hmrl", .str "icx", .str "icv", .str "lt", .str "mean", .str "pr", .str "median", .str "least", .str "most"])) .NotIn)])
  (thenF (sRaise ("Malformed" : Str) σ) fun σ =>
    sEnd σ)
  (sEnd σ)) fun σ =>
  sEnd σ

def S_found_objection (call : Str → List D → M D) (w : Nat) : List D → M D := runS ⟨false, false⟩ 3 6 fun σ =>
  thenF (sTup (frz σ [0, 1]) (callS call ("common_rows" : Str) [(rdV (frz σ [0, 1]) 0), (rdV (frz σ [0, 1]) 1)]) (.many [3, 4])) fun σ =>
  thenF (sIf σ (cmp1 (rd σ 2) (pure (.str "lt")) .Eq)
  (thenF (sAsg (frz σ [3, 4]) (callS call ("found_below" : Str) [(callS call ("power_row" : Str) [(rdV (frz σ [3, 4]) 3), (rdV (frz σ [3, 4]) 4)])]) 5 false) fun σ =>
    thenF (sRet (frz σ [0, 1, 2, 3, 4, 5]) (ifeS (cmp1 (rd (frz σ [0, 1, 2, 3, 4, 5]) 5) (pure (.none)) .Is) (pure (.none)) (tupS [(pure (.str "lt")), (rdV (frz σ [0, 1, 2, 3, 4, 5]) 5)])) false) fun σ =>
    sEnd σ)
  (sEnd σ)) fun σ =>
  thenF (sIf σ (cmp1 (rd σ 2) (binS .Add (pure (.tuple [.str "lr", .str "hr", .str "rh", .str "mrl"])) (pure (.tuple [.str "st", .str "hmrl", .str "icx", .str "icv"]))) .In)
  (thenF (sRet (frz σ [0, 1, 2, 3, 4, 5]) (callS call ("found_fault" : Str) [(rdV (frz σ [0, 1, 2, 3, 4, 5]) 3), (rdV (frz σ [0, 1, 2, 3, 4, 5]) 4), (rdV (frz σ [0, 1, 2, 3, 4, 5]) 2)]) false) fun σ =>
    sEnd σ)
  (sEnd σ)) fun σ =>
  thenF (sRet (frz σ [0, 1, 2, 3, 4, 5]) (ifeS (callS call ("falls" : Str) [(rdV (frz σ [0, 1, 2, 3, 4, 5]) 3), (rdV (frz σ [0, 1, 2, 3, 4, 5]) 4), (rdV (frz σ [0, 1, 2, 3, 4, 5]) 2)]) (tupS [(rdV (frz σ [0, 1, 2, 3, 4, 5]) 2)]) (pure (.none))) false) fun σ =>
  sEnd σ

def S_objection (call : Str → List D → M D) (w : Nat) : List D → M D := runS ⟨false, false⟩ 3 3 fun σ =>
  thenF (sExp (frz σ [0]) (callS call ("check_draw" : Str) [(rdV (frz σ [0]) 0)])) fun σ =>
  thenF (sExp (frz σ [1]) (callS call ("check_draw" : Str) [(rdV (frz σ [1]) 1)])) fun σ =>
  thenF (sExp (frz σ [2]) (callS call ("check_word" : Str) [(rdV (frz σ [2]) 2)])) fun σ =>
  thenF (sRet (frz σ [0, 1, 2]) (callS call ("found_objection" : Str) [(rdV (frz σ [0, 1, 2]) 0), (rdV (frz σ [0, 1, 2]) 1), (rdV (frz σ [0, 1, 2]) 2)]) false) fun σ =>
  sEnd σ

def S_at_most (call : Str → List D → M D) (w : Nat) : List D → M D := runS ⟨false, false⟩ 3 3 fun σ =>
  thenF (sRet (frz σ [0, 1, 2]) (cmp1 (callS call ("objection" : Str) [(rdV (frz σ [0, 1, 2]) 0), (rdV (frz σ [0, 1, 2]) 1), (rdV (frz σ [0, 1, 2]) 2)]) (pure (.none)) .Is) false) fun σ =>
  sEnd σ

def S_compare (call : Str → List D → M D) (w : Nat) : List D → M D := runS ⟨false, false⟩ 3 5 fun σ =>
  thenF (sParN (frz σ [0, 1, 2, 1, 0, 2]) [false, false] [(callS call ("at_most" : Str) [(rdV (frz σ [0, 1, 2, 1, 0, 2]) 0), (rdV (frz σ [0, 1, 2, 1, 0, 2]) 1), (rdV (frz σ [0, 1, 2, 1, 0, 2]) 2)]), (callS call ("at_most" : Str) [(rdV (frz σ [0, 1, 2, 1, 0, 2]) 1), (rdV (frz σ [0, 1, 2, 1, 0, 2]) 0), (rdV (frz σ [0, 1, 2, 1, 0, 2]) 2)])] [3, 4]) fun σ =>
  thenF (sIf σ (rdV σ 3)
  (thenF (sRet (frz σ [0, 1, 2, 3, 4]) (ifeS (rdV (frz σ [0, 1, 2, 3, 4]) 4) (pure (.str "alike")) (pure (.str "lower"))) false) fun σ =>
    sEnd σ)
  (sEnd σ)) fun σ =>
  thenF (sRet (frz σ [0, 1, 2, 3, 4]) (ifeS (rdV (frz σ [0, 1, 2, 3, 4]) 4) (pure (.str "higher")) (pure (.str "open"))) false) fun σ =>
  sEnd σ

def S_takes_pair (call : Str → List D → M D) (w : Nat) : List D → M D := runS ⟨false, false⟩ 3 7 fun σ =>
  thenF (sIf σ (orS [(cmp1 (biS ("len" : Str) [(rd σ 2)]) (pure (.int 3)) .NotEq), (notS (callS call ("is_whole" : Str) [(ixS (rd σ 2) (pure (.int 1)))])), (notS (callS call ("is_whole" : Str) [(ixS (rd σ 2) (pure (.int 2)))]))])
  (thenF (sRet (frz σ [0, 1, 2, 3, 4, 5, 6]) (pure (.bool false)) false) fun σ =>
    sEnd σ)
  (sEnd σ)) fun σ =>
  thenF (sTup (frz σ [0]) (callS call ("table_of" : Str) [(ixS (rd (frz σ [0]) 2) (pure (.int 0))), (rdV (frz σ [0]) 0)]) (.many [3, 4])) fun σ =>
  thenF (sParN σ [false, false] [(binS .Sub (ixS (rd σ 2) (pure (.int 1))) (rd σ 3)), (binS .Sub (ixS (rd σ 2) (pure (.int 2))) (rd σ 3))] [5, 6]) fun σ =>
  thenF (sRet (frz σ [0, 1, 2, 3, 4, 5, 6]) (andS [(cmp3 (pure (.int 0)) (rd (frz σ [0, 1, 2, 3, 4, 5, 6]) 5) (rd (frz σ [0, 1, 2, 3, 4, 5, 6]) 6) (biS ("len" : Str) [(rd (frz σ [0, 1, 2, 3, 4, 5, 6]) 4)]) .LtE .Lt .Lt), (callS call ("fails_pair" : Str) [(rdV (frz σ [0, 1, 2, 3, 4, 5, 6]) 4), (ixS (callS call ("table_of" : Str) [(ixS (rd (frz σ [0, 1, 2, 3, 4, 5, 6]) 2) (pure (.int 0))), (rdV (frz σ [0, 1, 2, 3, 4, 5, 6]) 1)]) (pure (.int 1))), (rdV (frz σ [0, 1, 2, 3, 4, 5, 6]) 5), (rdV (frz σ [0, 1, 2, 3, 4, 5, 6]) 6)])]) false) fun σ =>
  sEnd σ

def S_takes_place (call : Str → List D → M D) (w : Nat) : List D → M D := runS ⟨false, false⟩ 3 5 fun σ =>
  thenF (sIf σ (orS [(cmp1 (biS ("len" : Str) [(rd σ 2)]) (pure (.int 2)) .NotEq), (notS (callS call ("is_whole" : Str) [(ixS (rd σ 2) (pure (.int 1)))]))])
  (thenF (sRet (frz σ [0, 1, 2, 3, 4]) (pure (.bool false)) false) fun σ =>
    sEnd σ)
  (sEnd σ)) fun σ =>
  thenF (sTup (frz σ [0]) (callS call ("table_of" : Str) [(ixS (rd (frz σ [0]) 2) (pure (.int 0))), (rdV (frz σ [0]) 0)]) (.many [3, 4])) fun σ =>
  thenF (sRet (frz σ [0, 1, 2, 3, 4]) (andS [(cmp2 (pure (.int 0)) (binS .Sub (ixS (rd (frz σ [0, 1, 2, 3, 4]) 2) (pure (.int 1))) (rd (frz σ [0, 1, 2, 3, 4]) 3)) (biS ("len" : Str) [(rd (frz σ [0, 1, 2, 3, 4]) 4)]) .LtE .Lt), (callS call ("fails_place" : Str) [(ixS (rd (frz σ [0, 1, 2, 3, 4]) 2) (pure (.int 0))), (rdV (frz σ [0, 1, 2, 3, 4]) 4), (ixS (callS call ("table_of" : Str) [(ixS (rd (frz σ [0, 1, 2, 3, 4]) 2) (pure (.int 0))), (rdV (frz σ [0, 1, 2, 3, 4]) 1)]) (pure (.int 1))), (binS .Sub (ixS (rd (frz σ [0, 1, 2, 3, 4]) 2) (pure (.int 1))) (rd (frz σ [0, 1, 2, 3, 4]) 3))])]) false) fun σ =>
  sEnd σ

def S_takes_objection (call : Str → List D → M D) (w : Nat) : List D → M D := runS ⟨false, false⟩ 3 6 fun σ =>
  thenF (sExp (frz σ [0]) (callS call ("check_draw" : Str) [(rdV (frz σ [0]) 0)])) fun σ =>
  thenF (sExp (frz σ [1]) (callS call ("check_draw" : Str) [(rdV (frz σ [1]) 1)])) fun σ =>
  thenF (sIf σ (orS [(notS (isiS (rd σ 2) ("tuple" : Str))), (cmp1 (biS ("len" : Str) [(rd σ 2)]) (pure (.int 1)) .Lt), (notS (isiS (ixS (rd σ 2) (pure (.int 0))) ("str" : Str))), (cmp1 (ixS (rd σ 2) (pure (.int 0))) (pure (.tuple [.str "lr", .str "hr", .str "rh", .str "st", .str "mrl", .str "hmrl", .str "icx", .str "icv", .str "lt", .str "mean", .str "pr", .str "median", .str "least", .str "most"])) .NotIn)])
  (thenF (sRet (frz σ [0, 1, 2, 3, 4, 5]) (pure (.bool false)) false) fun σ =>
    sEnd σ)
  (sEnd σ)) fun σ =>
  thenF (sTup (frz σ [0, 1]) (callS call ("common_rows" : Str) [(rdV (frz σ [0, 1]) 0), (rdV (frz σ [0, 1]) 1)]) (.many [3, 4])) fun σ =>
  thenF (sAsg σ (ixS (rd σ 2) (pure (.int 0))) 5 false) fun σ =>
  thenF (sIf σ (cmp1 (rd σ 5) (pure (.tuple [.str "lr", .str "hr", .str "rh", .str "mrl"])) .In)
  (thenF (sRet (frz σ [0, 1, 2, 3, 4, 5]) (callS call ("takes_pair" : Str) [(rdV (frz σ [0, 1, 2, 3, 4, 5]) 3), (rdV (frz σ [0, 1, 2, 3, 4, 5]) 4), (rdV (frz σ [0, 1, 2, 3, 4, 5]) 2)]) false) fun σ =>
    sEnd σ)
  (sEnd σ)) fun σ =>
  thenF (sIf σ (cmp1 (rd σ 5) (pure (.tuple [.str "st", .str "hmrl", .str "icx", .str "icv"])) .In)
  (thenF (sRet (frz σ [0, 1, 2, 3, 4, 5]) (callS call ("takes_place" : Str) [(rdV (frz σ [0, 1, 2, 3, 4, 5]) 3), (rdV (frz σ [0, 1, 2, 3, 4, 5]) 4), (rdV (frz σ [0, 1, 2, 3, 4, 5]) 2)]) false) fun σ =>
    sEnd σ)
  (sEnd σ)) fun σ =>
  thenF (sIf σ (cmp1 (rd σ 5) (pure (.str "lt")) .Eq)
  (thenF (sIf σ (orS [(cmp1 (biS ("len" : Str) [(rd σ 2)]) (pure (.int 2)) .NotEq), (notS (callS call ("is_ratio" : Str) [(ixS (rd σ 2) (pure (.int 1)))])), (cmp1 (ixS (ixS (rd σ 2) (pure (.int 1))) (pure (.int 0))) (pure (.int 0)) .Lt), (cmp1 (ixS (ixS (rd σ 2) (pure (.int 1))) (pure (.int 0))) (ixS (ixS (rd σ 2) (pure (.int 1))) (pure (.int 1))) .Gt)])
    (thenF (sRet (frz σ [0, 1, 2, 3, 4, 5]) (pure (.bool false)) false) fun σ =>
      sEnd σ)
    (sEnd σ)) fun σ =>
    thenF (sRet (frz σ [0, 1, 2, 3, 4, 5]) (cmp1 (callS call ("sign_at" : Str) [(callS call ("power_row" : Str) [(rdV (frz σ [0, 1, 2, 3, 4, 5]) 3), (rdV (frz σ [0, 1, 2, 3, 4, 5]) 4)]), (ixS (rd (frz σ [0, 1, 2, 3, 4, 5]) 2) (pure (.int 1)))]) (pure (.int 0)) .Lt) false) fun σ =>
    sEnd σ)
  (sEnd σ)) fun σ =>
  thenF (sRet (frz σ [0, 1, 2, 3, 4, 5]) (andS [(cmp1 (biS ("len" : Str) [(rd (frz σ [0, 1, 2, 3, 4, 5]) 2)]) (pure (.int 1)) .Eq), (callS call ("falls" : Str) [(rdV (frz σ [0, 1, 2, 3, 4, 5]) 3), (rdV (frz σ [0, 1, 2, 3, 4, 5]) 4), (rdV (frz σ [0, 1, 2, 3, 4, 5]) 5)])]) false) fun σ =>
  sEnd σ

inductive Wrd | tw (t : TW) | ow (o : OW)
def Wrd.D : Wrd → Py.D
  | .tw t => t.D
  | .ow o => o.D
def failW (w : Wrd) (x y : List Int) : Bool := match w with
  | .tw t => failT t x y
  | .ow o => failO o x y
def objW (w : Wrd) (x y : List Int) (d : D) : Prop := match w with
  | .tw t => objT t x y d
  | .ow o => d = .tuple [o.D]
def OR (w : Wrd) (x y : List Int) (d : D) : Prop := (d = .none ∧ failW w x y = false) ∨ (failW w x y = true ∧ objW w x y d)
/-- the rows of two draws -/
def xr (a b : List Int) : List Int := pad (max a.length b.length) b.sum a
def yr (a b : List Int) : List Int := pad (max a.length b.length) a.sum b
theorem pad_sum (s : Nat) (c : Int) (xs : List Int) : (pad s c xs).sum = xs.sum * c := by
  unfold pad
  rw [List.sum_append]
  have : ∀ xs : List Int, (xs.map fun x => x * c).sum = xs.sum * c := by
    intro xs
    induction xs with
    | nil => simp
    | cons x xs ih => simp [ih, Int.add_mul]
  rw [this]
  simp
theorem xr_flip (a b : List Int) : xr b a = yr a b := by unfold xr yr; rw [Nat.max_comm]
theorem yr_flip (a b : List Int) : yr b a = xr a b := by unfold xr yr; rw [Nat.max_comm]
theorem rows_ok {a b : List Int} (ha : IsDr a) (hb : IsDr b) : RwN (xr a b) (yr a b) := by
  have la := ha.most
  have lb := hb.most
  have l1 := ha.one
  have s1 := ha.sum
  have s2 := hb.sum
  have e1 : (xr a b).length = max a.length b.length := pad_len (by omega)
  have e2 : (yr a b).length = max a.length b.length := pad_len (by omega)
  refine ⟨⟨by rw [e1, e2], by omega, by omega, pad_bt (fun x h => ha.bt h) hb.sumBt, pad_bt (fun x h => hb.bt h) ha.sumBt⟩, pad_nn (fun x h => (ha.wt x h).1) (by omega), pad_nn (fun x h => (hb.wt x h).1) (by omega), ?_, ?_⟩
  · unfold xr; rw [pad_sum]; exact Int.mul_pos s1 s2
  · unfold yr; rw [pad_sum]; exact Int.mul_pos s2 s1
theorem padsD_xy (mk : List D → D) (a b : List Int) : padsD mk a b = mk [lisD (xr a b), lisD (yr a b)] := rfl
def Sp_check_word (f : List D → M D) : Prop := ∀ w : Wrd, f [w.D] = pure .none
theorem s_check_word {call : Str → List D → M D} {w : Nat} : Sp_check_word (S_check_word call w) := by
  intro w
  rcases w with t | o
  · cases t <;> kernel_rfl
  · cases o <;> kernel_rfl
def Sp_found_objection (f : List D → M D) : Prop := ∀ (w : Wrd) (a b : List Int), IsDr a → IsDr b → ∃ d, f [tupD a, tupD b, w.D] = pure d ∧ OR w (xr a b) (yr a b) d
theorem s_found_objection {call : Str → List D → M D} {w : Nat} (h1 : Sp_common_rows (call "common_rows")) (h2 : Sp_found_fault (call "found_fault")) (h3 : Sp_falls (call "falls")) : Sp_found_objection (S_found_objection call w) := by
  intro wd a b ha hb
  unfold S_found_objection
  rw [runS_3]
  have hr := rows_ok ha hb
  have e1 := h1 a b ha hb
  rw [padsD_xy] at e1
  have q1 : ∀ w : Wrd, eqD w.D (.str "lt") = pure false := fun w => by rcases w with t | o; (cases t <;> kernel_rfl); (cases o <;> kernel_rfl)
  have ad : binop .Add (.tuple [.str "lr", .str "hr", .str "rh", .str "mrl"]) (.tuple [.str "st", .str "hmrl", .str "icx", .str "icv"]) = pure (.tuple [.str "lr", .str "hr", .str "rh", .str "mrl", .str "st", .str "hmrl", .str "icx", .str "icv"]) := binop_addT (sl (by decide))
  rcases wd with t | o
  · have q2 : inD (Wrd.tw t).D (.tuple [.str "lr", .str "hr", .str "rh", .str "mrl", .str "st", .str "hmrl", .str "icx", .str "icv"]) = pure true := by cases t <;> kernel_rfl
    obtain ⟨d, e2, e3⟩ := h2 t _ _ hr.toRw
    refine ⟨d, ?_, e3⟩
    rw [show t.D = (Wrd.tw t).D from rfl] at e2
    simp [startN, callS, e1, q1, ad, q2, e2]
  · have q2 : inD (Wrd.ow o).D (.tuple [.str "lr", .str "hr", .str "rh", .str "mrl", .str "st", .str "hmrl", .str "icx", .str "icv"]) = pure false := by cases o <;> kernel_rfl
    have e2 := h3 o _ _ hr
    rw [show o.D = (Wrd.ow o).D from rfl] at e2
    cases hf : failO o (xr a b) (yr a b) with
    | true =>
      rw [hf] at e2
      refine ⟨.tuple [(Wrd.ow o).D], ?_, .inr ⟨hf, rfl⟩⟩
      simp [startN, callS, e1, q1, ad, q2, e2, tupS, sline]
    | false =>
      rw [hf] at e2
      refine ⟨.none, ?_, .inl ⟨rfl, hf⟩⟩
      simp [startN, callS, e1, q1, ad, q2, e2]
def Sp_objection (f : List D → M D) : Prop := ∀ (w : Wrd) (a b : List Int), IsDr a → IsDr b → ∃ d, f [tupD a, tupD b, w.D] = pure d ∧ OR w (xr a b) (yr a b) d
theorem s_objection {call : Str → List D → M D} {w : Nat} (h1 : Sp_check_draw (call "check_draw")) (h2 : Sp_check_word (call "check_word")) (h3 : Sp_found_objection (call "found_objection")) : Sp_objection (S_objection call w) := by
  intro wd a b ha hb
  unfold S_objection
  rw [runS_3]
  have e1 := h1 (tupD a) (by simp)
  rw [ha.is, if_pos rfl] at e1
  have e2 := h1 (tupD b) (by simp)
  rw [hb.is, if_pos rfl] at e2
  have e3 := h2 wd
  obtain ⟨d, e4, e5⟩ := h3 wd a b ha hb
  refine ⟨d, ?_, e5⟩
  simp [startN, callS, e1, e2, e3, e4]
theorem OR_none {wd : Wrd} {x y : List Int} {d : D} (h : OR wd x y d) : cmpop .Is d .none = pure (!failW wd x y) ∧ cmpop .IsNot d .none = pure (failW wd x y) := by
  rcases h with ⟨rfl, h⟩ | ⟨h, ho⟩
  · rw [h]; exact ⟨rfl, rfl⟩
  · rw [h]
    have : ∃ ds, d = .tuple ds := by
      rcases wd with t | o
      · rcases ho with ⟨_, i, k, _, _, _, e⟩ | ⟨_, k, _, _, e⟩
        · exact ⟨_, e⟩
        · exact ⟨_, e⟩
      · exact ⟨_, ho⟩
    obtain ⟨ds, rfl⟩ := this
    exact ⟨rfl, rfl⟩
def Sp_at_most (f : List D → M D) : Prop := ∀ (w : Wrd) (a b : List Int), IsDr a → IsDr b → f [tupD a, tupD b, w.D] = pure (.bool (!failW w (xr a b) (yr a b)))
theorem s_at_most {call : Str → List D → M D} {w : Nat} (h1 : Sp_objection (call "objection")) : Sp_at_most (S_at_most call w) := by
  intro wd a b ha hb
  unfold S_at_most
  rw [runS_3]
  obtain ⟨d, e4, e5⟩ := h1 wd a b ha hb
  simp [startN, callS, e4, (OR_none e5).1]
def cmpN (p q : Bool) : Str := if p = true then (if q = true then "alike" else "lower") else (if q = true then "higher" else "open")
def Sp_compare (f : List D → M D) : Prop := ∀ (w : Wrd) (a b : List Int), IsDr a → IsDr b → f [tupD a, tupD b, w.D] = pure (.str (cmpN (!failW w (xr a b) (yr a b)) (!failW w (yr a b) (xr a b))))
theorem s_compare {call : Str → List D → M D} {w : Nat} (h1 : Sp_at_most (call "at_most")) : Sp_compare (S_compare call w) := by
  intro wd a b ha hb
  unfold S_compare
  rw [runS_3]
  have e1 := h1 wd a b ha hb
  have e2 := h1 wd b a hb ha
  rw [xr_flip a b, yr_flip a b] at e2
  unfold cmpN
  generalize failW wd (xr a b) (yr a b) = p at *
  generalize failW wd (yr a b) (xr a b) = q at *
  cases p <;> cases q <;> simp only [Bool.not_true, Bool.not_false] at e1 e2 <;> simp [startN, callS, e1, e2]
def Sp_takes_pair (f : List D → M D) : Prop := ∀ (t : TW) (x y : List Int) (d : D), Rw x y → t.pair = true → objT t x y d → f [lisD x, lisD y, d] = pure (.bool true)
theorem s_takes_pair {call : Str → List D → M D} {w : Nat} (h1 : Sp_is_whole (call "is_whole")) (h2 : Sp_table_of (call "table_of")) (h3 : Sp_fails_pair (call "fails_pair")) : Sp_takes_pair (S_takes_pair call w) := by
  intro t x y d hr hp ho
  rcases ho with ⟨_, i, k, hik, hk, hbad, rfl⟩ | ⟨h, _⟩
  case inr => rw [hp] at h; cases h
  unfold S_takes_pair
  rw [runS_3]
  have lx := hr.most
  have ly := hr.len
  have ha := tabI_bt (t := t) hr.bx (by omega)
  have hb := tabI_bt (t := t) hr.bY (by omega)
  have la := tabI_len t x
  have lb := tabI_len t y
  have e1 := h2 t x (by omega)
  have e2 := h2 t y (by omega)
  have e3 := h3 (tabI t x) (tabI t y) i k ha hb (by omega) (by omega) (by omega)
  rw [← badB_pair hp, hbad] at e3
  have w1 := h1 (.int (((i + t.first : Nat)) : Int)) rfl
  have w2 := h1 (.int (((k + t.first : Nat)) : Int)) rfl
  have g0 : getD' (.tuple [t.D, .int (((i + t.first : Nat)) : Int), .int (((k + t.first : Nat)) : Int)]) (.int 0) = pure t.D := getT_zero ..
  have g1 : getD' (.tuple [t.D, .int (((i + t.first : Nat)) : Int), .int (((k + t.first : Nat)) : Int)]) (.int 1) = pure (.int (((i + t.first : Nat)) : Int)) := getT_one ..
  have g2 : getD' (.tuple [t.D, .int (((i + t.first : Nat)) : Int), .int (((k + t.first : Nat)) : Int)]) (.int 2) = pure (.int (((k + t.first : Nat)) : Int)) := getT_nat (i := 2) rfl
  have s1 : (((i + t.first : Nat)) : Int) - (t.first : Int) = (i : Int) := by omega
  have s2 : (((k + t.first : Nat)) : Int) - (t.first : Int) = (k : Int) := by omega
  have c1 : (0 : Int) ≤ (i : Int) := by omega
  have c2 : (i : Int) < (k : Int) := by omega
  have c3 : (k : Int) < ((tabI t x).length : Int) := by omega
  generalize hI : (((i + t.first : Nat)) : Int) = I at *
  generalize hK : (((k + t.first : Nat)) : Int) = K at *
  simp [startN, biS, g0, g1, g2, callS, w1, w2, isWh, e1, e2, s1, s2, cmp3, c2, c3, e3]
def Sp_takes_place (f : List D → M D) : Prop := ∀ (t : TW) (x y : List Int) (d : D), Rw x y → t.pair = false → objT t x y d → f [lisD x, lisD y, d] = pure (.bool true)
theorem s_takes_place {call : Str → List D → M D} {w : Nat} (h1 : Sp_is_whole (call "is_whole")) (h2 : Sp_table_of (call "table_of")) (h3 : Sp_fails_place (call "fails_place")) : Sp_takes_place (S_takes_place call w) := by
  intro t x y d hr hp ho
  rcases ho with ⟨h, _⟩ | ⟨_, k, hk, hbad, rfl⟩
  case inl => rw [hp] at h; cases h
  unfold S_takes_place
  rw [runS_3]
  have lx := hr.most
  have ly := hr.len
  have ha := tabI_bt (t := t) hr.bx (by omega)
  have hb := tabI_bt (t := t) hr.bY (by omega)
  have la := tabI_len t x
  have lb := tabI_len t y
  have e1 := h2 t x (by omega)
  have e2 := h2 t y (by omega)
  have e3 := h3 t (tabI t x) (tabI t y) k hp ha hb (by omega) (by omega)
  rw [hbad] at e3
  have w2 := h1 (.int (((k + t.first : Nat)) : Int)) rfl
  have g0 : getD' (.tuple [t.D, .int (((k + t.first : Nat)) : Int)]) (.int 0) = pure t.D := getT_zero ..
  have g1 : getD' (.tuple [t.D, .int (((k + t.first : Nat)) : Int)]) (.int 1) = pure (.int (((k + t.first : Nat)) : Int)) := getT_one ..
  have s2 : (((k + t.first : Nat)) : Int) - (t.first : Int) = (k : Int) := by omega
  have c3 : (k : Int) < ((tabI t x).length : Int) := by omega
  generalize hK : (((k + t.first : Nat)) : Int) = K at *
  simp [startN, biS, g0, g1, callS, w2, isWh, e1, e2, s2, c3, e3]
def Sp_takes_objection (f : List D → M D) : Prop := ∀ (w : Wrd) (a b : List Int) (d : D), IsDr a → IsDr b → failW w (xr a b) (yr a b) = true → objW w (xr a b) (yr a b) d → f [tupD a, tupD b, d] = pure (.bool true)
theorem s_takes_objection {call : Str → List D → M D} {w : Nat} (h1 : Sp_check_draw (call "check_draw")) (h2 : Sp_common_rows (call "common_rows")) (h3 : Sp_takes_pair (call "takes_pair")) (h4 : Sp_takes_place (call "takes_place")) (h5 : Sp_falls (call "falls")) : Sp_takes_objection (S_takes_objection call w) := by
  intro wd a b d ha hb hf ho
  unfold S_takes_objection
  rw [runS_3]
  have hr := rows_ok ha hb
  have e1 := h1 (tupD a) (by simp)
  rw [ha.is, if_pos rfl] at e1
  have e2 := h1 (tupD b) (by simp)
  rw [hb.is, if_pos rfl] at e2
  have e3 := h2 a b ha hb
  rw [padsD_xy] at e3
  obtain ⟨ds, rfl⟩ : ∃ ds, d = .tuple (wd.D :: ds) := by
    rcases wd with t | o
    · rcases ho with ⟨_, i, k, _, _, _, e⟩ | ⟨_, k, _, _, e⟩
      · exact ⟨_, e⟩
      · exact ⟨_, e⟩
    · exact ⟨_, ho⟩
  have hin : inD wd.D (.tuple [.str "lr", .str "hr", .str "rh", .str "st", .str "mrl", .str "hmrl", .str "icx", .str "icv", .str "lt", .str "mean", .str "pr", .str "median", .str "least", .str "most"]) = pure true := by
    rcases wd with t | o
    · cases t <;> kernel_rfl
    · cases o <;> kernel_rfl
  have hstr : isiS (pure wd.D) "str" = pure (.bool true) := by
    rcases wd with t | o
    · cases t <;> rfl
    · cases o <;> rfl
  have hlen : ¬ ((ds.length : Int) + 1 < 1) := by omega
  rcases wd with t | o
  · have q1 : inD (Wrd.tw t).D (.tuple [.str "lr", .str "hr", .str "rh", .str "mrl"]) = pure t.pair := by cases t <;> kernel_rfl
    have q2 : inD (Wrd.tw t).D (.tuple [.str "st", .str "hmrl", .str "icx", .str "icv"]) = pure (!t.pair) := by cases t <;> kernel_rfl
    cases hp : t.pair with
    | true =>
      have e4 := h3 t _ _ _ hr.toRw hp ho
      simp [startN, callS, e1, e2, biS, hlen, hstr, hin, e3, q1, hp, e4]
    | false =>
      have e4 := h4 t _ _ _ hr.toRw hp ho
      simp [startN, callS, e1, e2, biS, hlen, hstr, hin, e3, q1, q2, hp, e4]
  · have q1 : inD (Wrd.ow o).D (.tuple [.str "lr", .str "hr", .str "rh", .str "mrl"]) = pure false := by cases o <;> kernel_rfl
    have q2 : inD (Wrd.ow o).D (.tuple [.str "st", .str "hmrl", .str "icx", .str "icv"]) = pure false := by cases o <;> kernel_rfl
    have q3 : eqD (Wrd.ow o).D (.str "lt") = pure false := by cases o <;> kernel_rfl
    have e4 := h5 o _ _ hr
    rw [show failO o (xr a b) (yr a b) = true from hf, show o.D = (Wrd.ow o).D from rfl] at e4
    have : ds = [] := by
      have h : PyData.tuple ((Wrd.ow o).D :: ds) = .tuple [o.D] := ho
      simp at h
      exact h.2
    subst this
    simp [startN, callS, e1, e2, biS, hstr, hin, e3, q1, q2, q3, e4]
end Py

set_option Elab.async false
set_option linter.all false
set_option maxRecDepth 100000
namespace Py
open PySem
def S__law_together_e0 (call : Str → List D → M D) (w : Nat) (σ : St) : M D :=
  (binS .Mult (rd σ 5) (biS ("sum" : Str) [(rd σ 1)]))
def S__law_together_e1 (call : Str → List D → M D) (w : Nat) (σ : St) : M D :=
  (binS .Mult (rd σ 5) (biS ("sum" : Str) [(rd σ 0)]))
def S__law_together (call : Str → List D → M D) (w : Nat) : List D → M D := runS ⟨false, false⟩ 2 6 fun σ =>
  thenF (sAsg σ (biS ("max" : Str) [(biS ("len" : Str) [(rd σ 0)]), (biS ("len" : Str) [(rd σ 1)])]) 2 false) fun σ =>
  thenF (sAsg σ (binS .Add (compS (dataI (rd σ 0)) (fun d => bindG (.one 5) (wipe σ [5]) d) (fun _ => pure true) (S__law_together_e0 call w)) (binS .Mult (lstS [(pure (.int 0))]) (binS .Sub (rd σ 2) (biS ("len" : Str) [(rd σ 0)])))) 3 true) fun σ =>
  thenF (sAsg σ (binS .Add (compS (dataI (rd σ 1)) (fun d => bindG (.one 5) (wipe σ [5]) d) (fun _ => pure true) (S__law_together_e1 call w)) (binS .Mult (lstS [(pure (.int 0))]) (binS .Sub (rd σ 2) (biS ("len" : Str) [(rd σ 1)])))) 4 true) fun σ =>
  thenF (sRet (frz σ [0, 1, 2, 3, 4]) (lstS [(rdV (frz σ [0, 1, 2, 3, 4]) 3), (rdV (frz σ [0, 1, 2, 3, 4]) 4)]) true) fun σ =>
  sEnd σ

def S__law_tails_e0 (call : Str → List D → M D) (w : Nat) (σ : St) : M D :=
  (biS ("sum" : Str) [(slS (rd σ 0) (some (rd σ 1)) none)])
def S__law_tails (call : Str → List D → M D) (w : Nat) : List D → M D := runS ⟨false, false⟩ 1 2 fun σ =>
  thenF (sRet (frz σ [0]) (compS (iterS ("range" : Str) [(biS ("len" : Str) [(rd (frz σ [0]) 0)])]) (fun d => bindG (.one 1) (wipe (frz σ [0]) [1]) d) (fun _ => pure true) (S__law_tails_e0 call w)) true) fun σ =>
  sEnd σ

def S__law_heads_e0 (call : Str → List D → M D) (w : Nat) (σ : St) : M D :=
  (biS ("sum" : Str) [(slS (rd σ 0) none (some (binS .Add (rd σ 1) (pure (.int 1)))))])
def S__law_heads (call : Str → List D → M D) (w : Nat) : List D → M D := runS ⟨false, false⟩ 1 2 fun σ =>
  thenF (sRet (frz σ [0]) (compS (iterS ("range" : Str) [(biS ("len" : Str) [(rd (frz σ [0]) 0)])]) (fun d => bindG (.one 1) (wipe (frz σ [0]) [1]) d) (fun _ => pure true) (S__law_heads_e0 call w)) true) fun σ =>
  sEnd σ

def S__law_ratios_i0 (call : Str → List D → M D) (w : Nat) (σ : St) : M Bool :=
  tstS (cmp1 (binS .Mult (ixS (rd σ 0) (rd σ 3)) (ixS (rd σ 1) (rd σ 2))) (binS .Mult (ixS (rd σ 0) (rd σ 2)) (ixS (rd σ 1) (rd σ 3))) .Lt)
def S__law_ratios_e1 (call : Str → List D → M D) (w : Nat) (σ : St) : M D :=
  (rdV σ 3)
def S__law_ratios_b2 (call : Str → List D → M D) (w : Nat) (σ : St) : M Flow :=
  thenF (sIf σ (cmp1 (compS (iterS ("range" : Str) [(rd σ 2)]) (fun d => bindG (.one 3) (wipe σ [3]) d) (S__law_ratios_i0 call w) (S__law_ratios_e1 call w)) (lstS []) .NotEq)
  (thenF (sRet (frz σ [0, 1, 2]) (pure (.bool false)) false) fun σ =>
    sEnd σ)
  (sEnd σ)) fun σ =>
  sEnd σ
def S__law_ratios (call : Str → List D → M D) (w : Nat) : List D → M D := runS ⟨false, false⟩ 2 4 fun σ =>
  thenF (sFor σ (iterS ("range" : Str) [(biS ("len" : Str) [(rd σ 0)])]) (.one 2) (S__law_ratios_b2 call w)) fun σ =>
  thenF (sRet (frz σ [0, 1, 2]) (pure (.bool true)) false) fun σ =>
  sEnd σ

def S__law_all_at_most_i0 (call : Str → List D → M D) (w : Nat) (σ : St) : M Bool :=
  tstS (cmp1 (ixS (rd σ 0) (rd σ 2)) (ixS (rd σ 1) (rd σ 2)) .Gt)
def S__law_all_at_most_e1 (call : Str → List D → M D) (w : Nat) (σ : St) : M D :=
  (rdV σ 2)
def S__law_all_at_most (call : Str → List D → M D) (w : Nat) : List D → M D := runS ⟨false, false⟩ 2 3 fun σ =>
  thenF (sRet (frz σ [0, 1]) (cmp1 (compS (iterS ("range" : Str) [(biS ("len" : Str) [(rd (frz σ [0, 1]) 0)])]) (fun d => bindG (.one 2) (wipe (frz σ [0, 1]) [2]) d) (S__law_all_at_most_i0 call w) (S__law_all_at_most_e1 call w)) (lstS []) .Eq) false) fun σ =>
  sEnd σ

def S__law_at_most_e0 (call : Str → List D → M D) (w : Nat) (σ : St) : M D :=
  (binS .Mult (rd σ 14) (ixS (rd σ 8) (pure (.int 0))))
def S__law_at_most_e1 (call : Str → List D → M D) (w : Nat) (σ : St) : M D :=
  (binS .Mult (rd σ 14) (ixS (rd σ 7) (pure (.int 0))))
def S__law_at_most_e2 (call : Str → List D → M D) (w : Nat) (σ : St) : M D :=
  (binS .Mult (ixS (rd σ 4) (rd σ 15)) (biS ("sum" : Str) [(slS (rd σ 3) none (some (rd σ 15)))]))
def S__law_at_most_e3 (call : Str → List D → M D) (w : Nat) (σ : St) : M D :=
  (binS .Mult (ixS (rd σ 3) (rd σ 15)) (biS ("sum" : Str) [(slS (rd σ 4) none (some (rd σ 15)))]))
def S__law_at_most_i4 (call : Str → List D → M D) (w : Nat) (σ : St) : M Bool :=
  tstS (cmp1 (binS .Mult (pure (.int 2)) (biS ("sum" : Str) [(slS (rd σ 12) none (some (binS .Add (rd σ 13) (pure (.int 1)))))])) (biS ("sum" : Str) [(rd σ 12)]) .GtE)
def S__law_at_most_e5 (call : Str → List D → M D) (w : Nat) (σ : St) : M D :=
  (rdV σ 13)
def S__law_at_most_e6 (call : Str → List D → M D) (w : Nat) (σ : St) : M D :=
  (ixS (compS (iterS ("range" : Str) [(biS ("len" : Str) [(rd σ 12)])]) (fun d => bindG (.one 13) (wipe σ [13]) d) (S__law_at_most_i4 call w) (S__law_at_most_e5 call w)) (pure (.int 0)))
def S__law_at_most_i7 (call : Str → List D → M D) (w : Nat) (σ : St) : M Bool :=
  tstS (cmp1 (ixS (rd σ 12) (rd σ 13)) (pure (.int 0)) .Gt)
def S__law_at_most_e8 (call : Str → List D → M D) (w : Nat) (σ : St) : M D :=
  (rdV σ 13)
def S__law_at_most_e9 (call : Str → List D → M D) (w : Nat) (σ : St) : M D :=
  (compS (iterS ("range" : Str) [(biS ("len" : Str) [(rd σ 12)])]) (fun d => bindG (.one 13) (wipe σ [13]) d) (S__law_at_most_i7 call w) (S__law_at_most_e8 call w))
def S__law_at_most_k10 (call : Str → List D → M D) (w : Nat) (σ : St) : M Flow :=
  thenF (sRet (frz σ [0, 1, 2, 3, 4, 5, 6, 7, 8, 9, 10, 11]) (ifeS (cmp1 (rd (frz σ [0, 1, 2, 3, 4, 5, 6, 7, 8, 9, 10, 11]) 2) (pure (.str "least")) .Eq) (cmp1 (biS ("min" : Str) [(ixS (rd (frz σ [0, 1, 2, 3, 4, 5, 6, 7, 8, 9, 10, 11]) 9) (pure (.int 0)))]) (biS ("min" : Str) [(ixS (rd (frz σ [0, 1, 2, 3, 4, 5, 6, 7, 8, 9, 10, 11]) 9) (pure (.int 1)))]) .LtE) (cmp1 (biS ("max" : Str) [(ixS (rd (frz σ [0, 1, 2, 3, 4, 5, 6, 7, 8, 9, 10, 11]) 9) (pure (.int 0)))]) (biS ("max" : Str) [(ixS (rd (frz σ [0, 1, 2, 3, 4, 5, 6, 7, 8, 9, 10, 11]) 9) (pure (.int 1)))]) .LtE)) false) fun σ =>
  sEnd σ
def S__law_at_most_k11 (call : Str → List D → M D) (w : Nat) (σ : St) : M Flow :=
  thenF (sAsg (frz σ [3, 4]) (compS (dataI (lstS [(rdV (frz σ [3, 4]) 3), (rdV (frz σ [3, 4]) 4)])) (fun d => bindG (.one 12) (wipe (frz σ [3, 4]) [12]) d) (fun _ => pure true) (S__law_at_most_e9 call w)) 9 true) (S__law_at_most_k10 call w)
def S__law_at_most_k12 (call : Str → List D → M D) (w : Nat) (σ : St) : M Flow :=
  thenF (sIf σ (cmp1 (rd σ 2) (pure (.str "median")) .Eq)
  (thenF (sAsg (frz σ [3, 4]) (compS (dataI (lstS [(rdV (frz σ [3, 4]) 3), (rdV (frz σ [3, 4]) 4)])) (fun d => bindG (.one 12) (wipe (frz σ [3, 4]) [12]) d) (fun _ => pure true) (S__law_at_most_e6 call w)) 11 true) fun σ =>
    thenF (sRet (frz σ [0, 1, 2, 3, 4, 5, 6, 7, 8, 9, 10, 11]) (cmp1 (ixS (rd (frz σ [0, 1, 2, 3, 4, 5, 6, 7, 8, 9, 10, 11]) 11) (pure (.int 0))) (ixS (rd (frz σ [0, 1, 2, 3, 4, 5, 6, 7, 8, 9, 10, 11]) 11) (pure (.int 1))) .LtE) false) fun σ =>
    sEnd σ)
  (sEnd σ)) (S__law_at_most_k11 call w)
def S__law_at_most_k13 (call : Str → List D → M D) (w : Nat) (σ : St) : M Flow :=
  thenF (sIf σ (cmp1 (rd σ 2) (pure (.str "pr")) .Eq)
  (thenF (sAsg σ (biS ("sum" : Str) [(compS (iterS ("range" : Str) [(biS ("len" : Str) [(rd σ 4)])]) (fun d => bindG (.one 15) (wipe σ [15]) d) (fun _ => pure true) (S__law_at_most_e2 call w))]) 10 false) fun σ =>
    thenF (sRet (frz σ [0, 1, 2, 3, 4, 5, 6, 7, 8, 9, 10, 11]) (cmp1 (rd (frz σ [0, 1, 2, 3, 4, 5, 6, 7, 8, 9, 10, 11]) 10) (biS ("sum" : Str) [(compS (iterS ("range" : Str) [(biS ("len" : Str) [(rd (frz σ [0, 1, 2, 3, 4, 5, 6, 7, 8, 9, 10, 11]) 3)])]) (fun d => bindG (.one 15) (wipe (frz σ [0, 1, 2, 3, 4, 5, 6, 7, 8, 9, 10, 11]) [15]) d) (fun _ => pure true) (S__law_at_most_e3 call w))]) .GtE) false) fun σ =>
    sEnd σ)
  (sEnd σ)) (S__law_at_most_k12 call w)
def S__law_at_most_k14 (call : Str → List D → M D) (w : Nat) (σ : St) : M Flow :=
  thenF (sIf σ (cmp1 (rd σ 2) (pure (.str "mean")) .Eq)
  (thenF (sRet (frz σ [0, 1, 2, 3, 4, 5, 6, 7, 8, 9, 10, 11]) (cmp1 (ixS (rd (frz σ [0, 1, 2, 3, 4, 5, 6, 7, 8, 9, 10, 11]) 7) (pure (.int 0))) (ixS (rd (frz σ [0, 1, 2, 3, 4, 5, 6, 7, 8, 9, 10, 11]) 8) (pure (.int 0))) .LtE) false) fun σ =>
    sEnd σ)
  (sEnd σ)) (S__law_at_most_k13 call w)
def S__law_at_most_k15 (call : Str → List D → M D) (w : Nat) (σ : St) : M Flow :=
  thenF (sIf σ (cmp1 (rd σ 2) (pure (.str "hmrl")) .Eq)
  (thenF (sRet (frz σ [0, 1, 2, 3, 4, 5, 6, 7, 8, 9, 10, 11]) (callS call ("_law_all_at_most" : Str) [(compS (dataI (rd (frz σ [0, 1, 2, 3, 4, 5, 6, 7, 8, 9, 10, 11]) 7)) (fun d => bindG (.one 14) (wipe (frz σ [0, 1, 2, 3, 4, 5, 6, 7, 8, 9, 10, 11]) [14]) d) (fun _ => pure true) (S__law_at_most_e0 call w)), (compS (dataI (rd (frz σ [0, 1, 2, 3, 4, 5, 6, 7, 8, 9, 10, 11]) 8)) (fun d => bindG (.one 14) (wipe (frz σ [0, 1, 2, 3, 4, 5, 6, 7, 8, 9, 10, 11]) [14]) d) (fun _ => pure true) (S__law_at_most_e1 call w))]) false) fun σ =>
    sEnd σ)
  (sEnd σ)) (S__law_at_most_k14 call w)
def S__law_at_most_k16 (call : Str → List D → M D) (w : Nat) (σ : St) : M Flow :=
  thenF (sIf σ (cmp1 (rd σ 2) (pure (.str "icx")) .Eq)
  (thenF (sRet (frz σ [0, 1, 2, 3, 4, 5, 6, 7, 8, 9, 10, 11]) (callS call ("_law_all_at_most" : Str) [(rdV (frz σ [0, 1, 2, 3, 4, 5, 6, 7, 8, 9, 10, 11]) 7), (rdV (frz σ [0, 1, 2, 3, 4, 5, 6, 7, 8, 9, 10, 11]) 8)]) false) fun σ =>
    sEnd σ)
  (sEnd σ)) (S__law_at_most_k15 call w)
def S__law_at_most_k17 (call : Str → List D → M D) (w : Nat) (σ : St) : M Flow :=
  thenF (sIf σ (cmp1 (rd σ 2) (pure (.str "mrl")) .Eq)
  (thenF (sRet (frz σ [0, 1, 2, 3, 4, 5, 6, 7, 8, 9, 10, 11]) (callS call ("_law_ratios" : Str) [(rdV (frz σ [0, 1, 2, 3, 4, 5, 6, 7, 8, 9, 10, 11]) 7), (rdV (frz σ [0, 1, 2, 3, 4, 5, 6, 7, 8, 9, 10, 11]) 8)]) false) fun σ =>
    sEnd σ)
  (sEnd σ)) (S__law_at_most_k16 call w)
def S__law_at_most_k18 (call : Str → List D → M D) (w : Nat) (σ : St) : M Flow :=
  thenF (sTup (frz σ [5, 6]) (tupS [(callS call ("_law_tails" : Str) [(rdV (frz σ [5, 6]) 5)]), (callS call ("_law_tails" : Str) [(rdV (frz σ [5, 6]) 6)])]) (.many [7, 8])) (S__law_at_most_k17 call w)
def S__law_at_most_k19 (call : Str → List D → M D) (w : Nat) (σ : St) : M Flow :=
  thenF (sIf σ (cmp1 (rd σ 2) (pure (.str "icv")) .Eq)
  (thenF (sRet (frz σ [0, 1, 2, 3, 4, 5, 6, 7, 8, 9, 10, 11]) (callS call ("_law_all_at_most" : Str) [(callS call ("_law_heads" : Str) [(callS call ("_law_heads" : Str) [(rdV (frz σ [0, 1, 2, 3, 4, 5, 6, 7, 8, 9, 10, 11]) 4)])]), (callS call ("_law_heads" : Str) [(callS call ("_law_heads" : Str) [(rdV (frz σ [0, 1, 2, 3, 4, 5, 6, 7, 8, 9, 10, 11]) 3)])])]) false) fun σ =>
    sEnd σ)
  (sEnd σ)) (S__law_at_most_k18 call w)
def S__law_at_most_k20 (call : Str → List D → M D) (w : Nat) (σ : St) : M Flow :=
  thenF (sIf σ (cmp1 (rd σ 2) (pure (.str "st")) .Eq)
  (thenF (sRet (frz σ [0, 1, 2, 3, 4, 5, 6, 7, 8, 9, 10, 11]) (callS call ("_law_all_at_most" : Str) [(rdV (frz σ [0, 1, 2, 3, 4, 5, 6, 7, 8, 9, 10, 11]) 5), (rdV (frz σ [0, 1, 2, 3, 4, 5, 6, 7, 8, 9, 10, 11]) 6)]) false) fun σ =>
    sEnd σ)
  (sEnd σ)) (S__law_at_most_k19 call w)
def S__law_at_most_k21 (call : Str → List D → M D) (w : Nat) (σ : St) : M Flow :=
  thenF (sIf σ (cmp1 (rd σ 2) (pure (.str "hr")) .Eq)
  (thenF (sRet (frz σ [0, 1, 2, 3, 4, 5, 6, 7, 8, 9, 10, 11]) (callS call ("_law_ratios" : Str) [(rdV (frz σ [0, 1, 2, 3, 4, 5, 6, 7, 8, 9, 10, 11]) 5), (rdV (frz σ [0, 1, 2, 3, 4, 5, 6, 7, 8, 9, 10, 11]) 6)]) false) fun σ =>
    sEnd σ)
  (sEnd σ)) (S__law_at_most_k20 call w)
def S__law_at_most_k22 (call : Str → List D → M D) (w : Nat) (σ : St) : M Flow :=
  thenF (sParN (frz σ [3, 4]) [false, false] [(callS call ("_law_tails" : Str) [(rdV (frz σ [3, 4]) 3)]), (callS call ("_law_tails" : Str) [(rdV (frz σ [3, 4]) 4)])] [5, 6]) (S__law_at_most_k21 call w)
def S__law_at_most_k23 (call : Str → List D → M D) (w : Nat) (σ : St) : M Flow :=
  thenF (sIf σ (cmp1 (rd σ 2) (pure (.str "rh")) .Eq)
  (thenF (sRet (frz σ [0, 1, 2, 3, 4, 5, 6, 7, 8, 9, 10, 11]) (callS call ("_law_ratios" : Str) [(callS call ("_law_heads" : Str) [(rdV (frz σ [0, 1, 2, 3, 4, 5, 6, 7, 8, 9, 10, 11]) 3)]), (callS call ("_law_heads" : Str) [(rdV (frz σ [0, 1, 2, 3, 4, 5, 6, 7, 8, 9, 10, 11]) 4)])]) false) fun σ =>
    sEnd σ)
  (sEnd σ)) (S__law_at_most_k22 call w)
def S__law_at_most_k24 (call : Str → List D → M D) (w : Nat) (σ : St) : M Flow :=
  thenF (sIf σ (cmp1 (rd σ 2) (pure (.str "lr")) .Eq)
  (thenF (sRet (frz σ [0, 1, 2, 3, 4, 5, 6, 7, 8, 9, 10, 11]) (callS call ("_law_ratios" : Str) [(rdV (frz σ [0, 1, 2, 3, 4, 5, 6, 7, 8, 9, 10, 11]) 3), (rdV (frz σ [0, 1, 2, 3, 4, 5, 6, 7, 8, 9, 10, 11]) 4)]) false) fun σ =>
    sEnd σ)
  (sEnd σ)) (S__law_at_most_k23 call w)
def S__law_at_most (call : Str → List D → M D) (w : Nat) : List D → M D := runS ⟨false, false⟩ 3 16 fun σ =>
  thenF (sTup (frz σ [0, 1]) (callS call ("_law_together" : Str) [(rdV (frz σ [0, 1]) 0), (rdV (frz σ [0, 1]) 1)]) (.many [3, 4])) (S__law_at_most_k24 call w)

def Sp__law_together (f : List D → M D) : Prop := ∀ a b : List Int, IsDr a → IsDr b → f [tupD a, tupD b] = pure (padsD .list a b)
theorem s__law_together {call : Str → List D → M D} {w : Nat} : Sp__law_together (S__law_together call w) := by
  intro a b ha hb
  unfold S__law_together
  rw [runS_2]
  have la := ha.most
  have lb := hb.most
  have hmx : max (a.length : Int) (b.length : Int) = ((max a.length b.length : Nat) : Int) := by omega
  simp [startN, biS, hmx, lstS, sline]
  rw [compS_map a .int (fun x => .int (x * b.sum)) rfl (sl (by omega)) fun x hx => ⟨_, rfl, by simp [S__law_together_e0, biS, bmul (ha.bt hx) hb.sumBt]⟩]
  rw [zeros (by omega) (by omega)]
  simp
  rw [binop_addL (sl (by simp; omega)), pad_D]
  simp [biS]
  rw [compS_map b .int (fun x => .int (x * a.sum)) rfl (sl (by omega)) fun x hx => ⟨_, rfl, by simp [S__law_together_e1, biS, bmul (hb.bt hx) ha.sumBt]⟩]
  rw [zeros (by omega) (by omega)]
  simp
  rw [binop_addL (sl (by simp; omega)), pad_D]
  simp [sline, padsD, lisD]
/-- the mean rest above a bar -/
def Sp__law_tails (f : List D → M D) : Prop := ∀ xs : List Int, xs.length ≤ 1000 → f [lisD xs] = pure (lisD (tl xs))
theorem s__law_tails {call : Str → List D → M D} {w : Nat} : Sp__law_tails (S__law_tails call w) := by
  intro xs hl
  unfold S__law_tails
  rw [runS_1]
  simp [startN, iterS, biS, range0 (n := (xs.length : Int)) (by omega) (by omega)]
  rw [compS_map (List.range xs.length) _ (fun (i : Nat) => .int (xs.drop i).sum) rfl (sl (by simp; omega)) fun i hi => ⟨_, rfl, by
    have c1 := cut_from (xs.map PyData.int) (k := (i : Int)) (by omega)
    simp [S__law_tails_e0, biS, c1]⟩]
  rw [← tl_range]
  simp [lisD, Function.comp_def]
def ratioAt (e d : List Int) (k : Nat) : Bool := (List.range k).all fun i => !decide (ix e i * ix d k < ix e k * ix d i)
def ratios (e d : List Int) : Bool := (List.range e.length).all (ratioAt e d)
def Sp__law_ratios (f : List D → M D) : Prop := ∀ e d : List Int, e.length = d.length → e.length ≤ 1000 → (∀ x ∈ e, Bt 400 x) → (∀ x ∈ d, Bt 400 x) → f [lisD e, lisD d] = pure (.bool (ratios e d))
theorem s__law_ratios {call : Str → List D → M D} {w : Nat} : Sp__law_ratios (S__law_ratios call w) := by
  intro e d hl hl2 he hd
  unfold S__law_ratios
  rw [runS_2]
  obtain ⟨v', q⟩ := forL_find (enc := fun (i : Nat) => PyData.int (i : Int)) (bind := bindG (.one 2)) (b := S__law_ratios_b2 call w) (fun k => !ratioAt e d k) (fun _ => (.bool false, false)) (fun v => [some (.list (e.map .int), false), some (.list (d.map .int), false), v, none]) (fun _ _ => rfl) (List.range e.length) (fun k hk => by
    have hk' := List.mem_range.mp hk
    simp [S__law_ratios_b2, iterS, rangeN (by omega : k ≤ 100000), lstS, sline]
    rw [compS_filter (List.range k) (fun (i : Nat) => PyData.int (i : Int)) (fun (i : Nat) => .int (i : Int)) (fun (i : Nat) => decide (ix e i * ix d k < ix e k * ix d i)) rfl (sl (by simp; omega)) fun i hi => ⟨_, rfl, by
      have hi' := List.mem_range.mp hi
      have e1 : getD' (.list (e.map .int)) (.int (i : Int)) = _ := getL_ix (by omega) (by omega)
      have e2 : getD' (.list (d.map .int)) (.int (k : Int)) = _ := getL_ix (by omega) (by omega)
      have e3 : getD' (.list (e.map .int)) (.int (k : Int)) = _ := getL_ix (by omega) (by omega)
      have e4 : getD' (.list (d.map .int)) (.int (i : Int)) = _ := getL_ix (by omega) (by omega)
      have b1 := he _ (ix_mem (xs := e) (i := (i : Int)) (by omega) (by omega))
      have b2 := hd _ (ix_mem (xs := d) (i := (k : Int)) (by omega) (by omega))
      have b3 := he _ (ix_mem (xs := e) (i := (k : Int)) (by omega) (by omega))
      have b4 := hd _ (ix_mem (xs := d) (i := (i : Int)) (by omega) (by omega))
      simp [S__law_ratios_i0, e1, e2, e3, e4, bmul b1 b2, bmul b3 b4], fun _ => by simp [S__law_ratios_e1]⟩]
    have h : eqD (.list (((List.range k).filter fun (i : Nat) => decide (ix e i * ix d k < ix e k * ix d i)).map fun (i : Nat) => .int (i : Int))) (.list []) = pure (ratioAt e d k) := eqD_filt _ _ _
    cases hb : ratioAt e d k
    · rw [hb] at h
      simp [h]
    · rw [hb] at h
      simp [h]) none
  simp at q
  simp [startN, iterS, biS, lisD, rangeN (by omega : e.length ≤ 100000), q]
  have hr : ratios e d = ((List.range e.length).find? (fun k => !ratioAt e d k)).isNone := by
    rw [Bool.eq_iff_iff]
    simp [ratios]
  cases hf : (List.range e.length).find? (fun k => !ratioAt e d k) with
  | none =>
    rw [hf] at hr
    simp [hr]
  | some k =>
    rw [hf] at hr
    simp [hr]
theorem eqD_no {a b : Str} (h : PyData.canLay0 (.str a) = true) (h' : PyData.canLay0 (.str b) = true) (hn : (a == b) = false) : eqD (.str a) (.str b) = pure false := by
  rw [eqD_str h h', hn]
theorem eqD_yes {a : Str} (h : PyData.canLay0 (.str a) = true) : eqD (.str a) (.str a) = pure true := by
  rw [eqD_str h h]
  simp
def Sp__law_heads (f : List D → M D) : Prop := ∀ xs : List Int, xs.length ≤ 1000 → f [lisD xs] = pure (lisD (scan 0 xs))
theorem scan_rangeA (xs : List Int) : (List.range xs.length).map (fun (i : Nat) => (xs.take (i + 1)).sum) = scan 0 xs := by
  refine ext_ix (by simp [scan_len]) fun k hk => ?_
  have hk' : k < xs.length := by simpa using hk
  rw [scan_get 0 xs k hk', Int.zero_add, ix_map _ _ _ (by simpa using hk')]
  simp
theorem s__law_heads {call : Str → List D → M D} {w : Nat} : Sp__law_heads (S__law_heads call w) := by
  intro xs hl
  unfold S__law_heads
  rw [runS_1]
  simp [startN, iterS, biS, range0 (n := (xs.length : Int)) (by omega) (by omega)]
  rw [compS_map (List.range xs.length) _ (fun (i : Nat) => .int (xs.take (i + 1)).sum) rfl (sl (by simp; omega)) fun i hi => ⟨_, rfl, by
    have c1 := cut_to (xs.map PyData.int) (k := (i : Int) + 1) (by omega)
    rw [show ((i : Int) + 1).toNat = i + 1 by omega] at c1
    simp [S__law_heads_e0, biS, c1]⟩]
  rw [← scan_rangeA]
  simp [lisD, Function.comp_def]
def allLe (x y : List Int) : Bool := (List.range x.length).all fun (k : Nat) => !decide (ix y k < ix x k)
def Sp__law_all_at_most (f : List D → M D) : Prop := ∀ x y : List Int, x.length = y.length → x.length ≤ 1000 → f [lisD x, lisD y] = pure (.bool (allLe x y))
theorem s__law_all_at_most {call : Str → List D → M D} {w : Nat} : Sp__law_all_at_most (S__law_all_at_most call w) := by
  intro x y hl hx
  unfold S__law_all_at_most
  rw [runS_2]
  simp [startN, iterS, biS, range0 (n := (x.length : Int)) (by omega) (by omega), lstS, sline, lisD]
  rw [compS_filter (List.range x.length) _ (fun (i : Nat) => .int (i : Int)) (fun (i : Nat) => decide (ix y i < ix x i)) rfl (sl (by simp; omega)) fun i hi => ⟨_, rfl, by
    have hi' := List.mem_range.mp hi
    have e1 : getD' (.list (x.map .int)) (.int (i : Int)) = _ := getL_ix (by omega) (by omega)
    have e2 : getD' (.list (y.map .int)) (.int (i : Int)) = _ := getL_ix (by omega) (by omega)
    simp [S__law_all_at_most_i0, e1, e2], fun _ => by simp [S__law_all_at_most_e1]⟩]
  have h : eqD (.list (((List.range x.length).filter fun (i : Nat) => decide (ix y i < ix x i)).map fun (i : Nat) => .int (i : Int))) (.list []) = pure (allLe x y) := eqD_filt _ _ _
  simp [h]
def Sp__law_at_most (f : List D → M D) : Prop := ∀ (t : TW) (a b : List Int), t ≠ .hmrl → IsDr a → IsDr b → f [tupD a, tupD b, t.D] = pure (.bool (!failT t (xr a b) (yr a b)))
theorem ratios_bad (t : TW) (ht : t.pair = true) (x y : List Int) : ratios (tabI t x) (tabI t y) = !failT t x y := by
  unfold failT ratios ratioAt
  rw [if_pos ht, tabI_len, Bool.eq_iff_iff]
  simp [badB_pair ht]
theorem allLe_bad (t : TW) (ht : t.pair = false) (hn : t ≠ .hmrl) (hv : t ≠ .icv) (x y : List Int) : allLe (tabI t x) (tabI t y) = !failT t x y := by
  unfold failT allLe
  rw [if_neg (by simp [ht]), tabI_len, Bool.eq_iff_iff]
  cases t <;> simp [TW.pair] at ht hn hv <;> simp [badB]
theorem allLe_icv (x y : List Int) (h : y.length = x.length) : allLe (tabI .icv y) (tabI .icv x) = !failT .icv x y := by
  unfold failT allLe
  rw [if_neg (by decide), tabI_len, h, Bool.eq_iff_iff]
  simp [badB]
theorem s__law_at_most {call : Str → List D → M D} {w : Nat} (h1 : Sp__law_together (call "_law_together")) (h2 : Sp__law_tails (call "_law_tails")) (h3 : Sp__law_heads (call "_law_heads")) (h4 : Sp__law_ratios (call "_law_ratios")) (h5 : Sp__law_all_at_most (call "_law_all_at_most")) : Sp__law_at_most (S__law_at_most call w) := by
  intro t a b hn ha hb
  unfold S__law_at_most
  rw [runS_3]
  have hr := rows_ok ha hb
  have e1 := h1 a b ha hb
  rw [padsD_xy] at e1
  have q1 : ∀ t : TW, eqD t.D (.str "lr") = pure (decide (t = .lr)) := fun t => by cases t <;> kernel_rfl
  have q2 : ∀ t : TW, eqD t.D (.str "rh") = pure (decide (t = .rh)) := fun t => by cases t <;> kernel_rfl
  have q3 : ∀ t : TW, eqD t.D (.str "hr") = pure (decide (t = .hr)) := fun t => by cases t <;> kernel_rfl
  have q4 : ∀ t : TW, eqD t.D (.str "st") = pure (decide (t = .st)) := fun t => by cases t <;> kernel_rfl
  have q5 : ∀ t : TW, eqD t.D (.str "icv") = pure (decide (t = .icv)) := fun t => by cases t <;> kernel_rfl
  have q6 : ∀ t : TW, eqD t.D (.str "mrl") = pure (decide (t = .mrl)) := fun t => by cases t <;> kernel_rfl
  have q7 : ∀ t : TW, eqD t.D (.str "icx") = pure (decide (t = .icx)) := fun t => by cases t <;> kernel_rfl
  generalize xr a b = x at *
  generalize yr a b = y at *
  have lx := hr.most
  have ly := hr.len
  have b1 := fun t => tabI_bt (t := t) hr.bx (by omega)
  have b2 := fun t => tabI_bt (t := t) hr.bY (by omega)
  have t1 := h2 x (by omega)
  have t2 := h2 y (by omega)
  have t3 := h2 (tl x) (by rw [tl_len]; omega)
  have t4 := h2 (tl y) (by rw [tl_len]; omega)
  have d1 := h3 x (by omega)
  have d2 := h3 y (by omega)
  have d3 := h3 (scan 0 x) (by rw [scan_len]; omega)
  have d4 := h3 (scan 0 y) (by rw [scan_len]; omega)
  have r := fun t (hp : t.pair = true) => h4 (tabI t x) (tabI t y) (by rw [tabI_len, tabI_len]; omega) (by rw [tabI_len]; omega) (fun z hz => (b1 t z hz).mono (by decide)) (fun z hz => (b2 t z hz).mono (by decide))
  have l := fun t => h5 (tabI t x) (tabI t y) (by rw [tabI_len, tabI_len]; omega) (by rw [tabI_len]; omega)
  have l2 := h5 (tabI .icv y) (tabI .icv x) (by rw [tabI_len, tabI_len]; omega) (by rw [tabI_len]; omega)
  have kk : ∀ σ : St, True := fun _ => trivial
  cases t with
  | hmrl => exact absurd rfl hn
  | lr =>
    have r := r .lr rfl
    rw [ratios_bad .lr rfl] at r
    simp only [tabI] at r
    simp [startN, callS, e1, S__law_at_most_k24, S__law_at_most_k23, tupS, sline, q1, r]
  | rh =>
    have r := r .rh rfl
    rw [ratios_bad .rh rfl] at r
    simp only [tabI] at r
    simp [startN, callS, e1, S__law_at_most_k24, S__law_at_most_k23, S__law_at_most_k22, tupS, sline, q1, q2, d1, d2, r]
  | hr =>
    have r := r .hr rfl
    rw [ratios_bad .hr rfl] at r
    simp only [tabI] at r
    simp [startN, callS, e1, S__law_at_most_k24, S__law_at_most_k23, S__law_at_most_k22, S__law_at_most_k21, S__law_at_most_k20, tupS, sline, q1, q2, q3, t1, t2, r]
  | st =>
    have l := l .st
    rw [allLe_bad .st rfl (by decide) (by decide)] at l
    simp only [tabI] at l
    simp [startN, callS, e1, S__law_at_most_k24, S__law_at_most_k23, S__law_at_most_k22, S__law_at_most_k21, S__law_at_most_k20, S__law_at_most_k19, tupS, sline, q1, q2, q3, q4, t1, t2, l]
  | icv =>
    rw [allLe_icv x y ly] at l2
    simp only [tabI] at l2
    simp [startN, callS, e1, S__law_at_most_k24, S__law_at_most_k23, S__law_at_most_k22, S__law_at_most_k21, S__law_at_most_k20, S__law_at_most_k19, S__law_at_most_k18, tupS, sline, q1, q2, q3, q4, q5, t1, t2, d1, d2, d3, d4, l2]
  | mrl =>
    have r := r .mrl rfl
    rw [ratios_bad .mrl rfl] at r
    simp only [tabI] at r
    simp [startN, callS, e1, S__law_at_most_k24, S__law_at_most_k23, S__law_at_most_k22, S__law_at_most_k21, S__law_at_most_k20, S__law_at_most_k19, S__law_at_most_k18, S__law_at_most_k17, tupS, sline, q1, q2, q3, q4, q5, q6, t1, t2, t3, t4, r]
  | icx =>
    have l := l .icx
    rw [allLe_bad .icx rfl (by decide) (by decide)] at l
    simp only [tabI] at l
    simp [startN, callS, e1, S__law_at_most_k24, S__law_at_most_k23, S__law_at_most_k22, S__law_at_most_k21, S__law_at_most_k20, S__law_at_most_k19, S__law_at_most_k18, S__law_at_most_k17, S__law_at_most_k16, tupS, sline, q1, q2, q3, q4, q5, q6, q7, t1, t2, t3, t4, l]
end Py

set_option Elab.async false
set_option linter.all false
set_option maxRecDepth 100000
namespace Py
open PySem
def nB (B : Int) (xs : List Int) : Prop := ∀ x ∈ xs, x ≤ B
def Sp__law_nearB (f : List D → M D) : Prop := ∀ (xs : List Int) (n wt : Int) (s : DS), OkS s → IsDr xs → 1 ≤ n → n ≤ 30 → 1 ≤ wt → wt ≤ 1000000 → ∀ B : Int, B + 6 ≤ 1000000 → wt ≤ B → nB B xs → (f [tok, tupD xs, .int n, .int wt] s).sat fun d s' => ∃ ys, d = tupD ys ∧ IsDr ys ∧ (ys.length : Int) ≤ max n xs.length ∧ nB (B + 6) ys ∧ OkS s'
theorem near_turnB {call : Str → List D → M D} {w : Nat} (ht : call "_law_take" = takeP) {xs row : List Int} {n wt : Int} (h1 : 1 ≤ row.length) (h2 : row.length ≤ 1000) (ho : okRow row) {B : Int} (hB : B + 2 ≤ 1000000) (hb : nB B row) (a5 a6 a7 a8 : Sl) {s : DS} (hs : OkS s) :
    (S__law_near_b0 call w (nearSt xs n wt row a5 a6 a7 a8) s).sat (NC fun σ s' => OkS s' ∧ ∃ row' a6 a7 a8, σ = nearSt xs n wt row' a5 a6 a7 a8 ∧ row'.length = row.length ∧ okRow row' ∧ nB (B + 2) row') := by
  have hL : (0 : Int) < (row.length : Int) := by omega
  have hL' : (row.length : Int) < 2 ^ 64 := by omega
  have i0 := tv_lo (s := s) hL
  have i1 := tv_hi (s := s) hL
  have hs1 := OkS_ts (n := row.length) hs
  have j0 := tv_lo (s := ts row.length s) hL
  have j1 := tv_hi (s := ts row.length s) hL
  have hs2 := OkS_ts (n := row.length) hs1
  have t0 := tv_lo (n := 3) (s := ts row.length (ts row.length s)) (by decide)
  have t1 := tv_hi (n := 3) (s := ts row.length (ts row.length s)) (by decide)
  have hs3 := OkS_ts (n := 3) hs2
  simp [S__law_near_b0, nearSt, bd_at, stE_at, thenF_at, quiet_at, ifeS, tstS, cmp1, cmp2, binS, ixS, slS, optS, biS, callS, lstS, tupS, iterS, evsS_cons, asBool, asInt, sFor, sAsg, sIf, sRet, sExp, sTup, negS, notS, andS, orS, callF_eq, take_T ht hs hL hL', take_T ht hs1 hL hL', take_T ht hs2]
  generalize tv row.length s = i at *
  generalize tv row.length (ts row.length s) = j at *
  generalize tv 3 (ts row.length (ts row.length s)) = t at *
  generalize ts 3 (ts row.length (ts row.length s)) = s' at *
  have gi : getD' (.list (row.map .int)) (.int i) = _ := getL_ix i0 i1
  have gj : getD' (.list (row.map .int)) (.int j) = _ := getL_ix j0 j1
  have mi := ho _ (ix_mem i0 i1)
  have mj := ho _ (ix_mem j0 j1)
  have bi := hb _ (ix_mem i0 i1)
  simp [gi, gj]
  by_cases c1 : t ≤ ix row i
  · by_cases c2 : ix row j + t ≤ 1000000
    · have xi : L2.ixN row.length i = some i.toNat := ixN_nn i0 i1
      have xj : L2.ixN row.length j = some j.toNat := ixN_nn j0 j1
      have o1 : okRow (row.set i.toNat (ix row i - t)) := ho.set (by omega) (by omega)
      have gj2 : getD' (.list ((row.map PyData.int).set i.toNat (.int (ix row i - t)))) (.int j) = pure (.int (ix (row.set i.toNat (ix row i - t)) j)) := by
        rw [set_mapI]
        exact getL_ix j0 (by simpa using j1)
      have mj2 : 0 ≤ ix (row.set i.toNat (ix row i - t)) j ∧ ix (row.set i.toNat (ix row i - t)) j + t ≤ 1000000 := by
        have h := o1 _ (ix_mem j0 (by simpa using j1))
        refine ⟨h.1, ?_⟩
        by_cases hij : i.toNat = j.toNat
        · have : i = j := by omega
          subst this
          have : ix (row.set i.toNat (ix row i - t)) i = ix row i - t := by
            have h3 : i.toNat < row.length := by omega
            simp [ix, h3]
          omega
        · have : ix (row.set i.toNat (ix row i - t)) j = ix row j := by
            unfold ix
            rw [List.getD_eq_getElem?_getD, List.getElem?_set_ne hij, ← List.getD_eq_getElem?_getD]
          omega
      have bj : ix (row.set i.toNat (ix row i - t)) j ≤ B := by
        have h := ix_mem (xs := row.set i.toNat (ix row i - t)) j0 (by simpa using j1)
        rcases List.mem_or_eq_of_mem_set h with h | h
        · exact hb _ h
        · omega
      have bb : nB (B + 2) ((row.set i.toNat (ix row i - t)).set j.toNat (ix (row.set i.toNat (ix row i - t)) j + t)) := fun x hx => by
        rcases List.mem_or_eq_of_mem_set hx with hx | rfl
        · rcases List.mem_or_eq_of_mem_set hx with hx | rfl
          · have := hb x hx; omega
          · omega
        · omega
      simp [c1, c2, sSub, ownI, xi, bd_at, stE_at, thenF_at, quiet_at, ifeS, tstS, cmp1, cmp2, binS, ixS, slS, optS, biS, callS, lstS, tupS, iterS, evsS_cons, asBool, asInt, sFor, sAsg, sIf, sRet, sExp, sTup, negS, notS, andS, orS, callF_eq, gj2, xj]
      refine ⟨hs3, (row.set i.toNat (ix row i - t)).set j.toNat (ix (row.set i.toNat (ix row i - t)) j + t), by rw [set_mapI, set_mapI], by simp, o1.set (by omega) (by omega), bb⟩
    · simp [c1, c2]
      exact ⟨hs3, row, rfl, rfl, ho, fun x hx => by have := hb x hx; omega⟩
  · simp [c1]
    exact ⟨hs3, row, rfl, rfl, ho, fun x hx => by have := hb x hx; omega⟩
theorem near_endB {call : Str → List D → M D} {w : Nat} (hw : 1 ≤ w) {xs row : List Int} {n wt : Int} (hx : IsDr xs) (hl : row.length ≤ 30) (ho : okRow row) {B : Int} (hb : nB B row) (hbx : nB B xs) (a5 a6 a7 a8 : Sl) {s : DS} (hs : OkS s) :
    (S__law_near_k4 call w (nearSt xs n wt row a5 a6 a7 a8) s).sat fun fl s' => ∃ ys o, fl = .ret (tupD ys) o ∧ IsDr ys ∧ ys.length ≤ max row.length xs.length ∧ nB B ys ∧ OkS s' := by
  have hm : (row.map PyData.int).length ≤ msr (nearSt xs n wt row a5 a6 a7 a8) := msr_list _ 4 _ true rfl
  rw [List.length_map] at hm
  obtain ⟨ys, m, e, h2, h3⟩ := strip_loop (c := S__law_near_c1 call w) (b := S__law_near_b2 call w) (fun row => nearSt xs n wt row a5 a6 a7 a8) (by
      have := eqD_listnil []
      simp at this
      simp [S__law_near_c1, nearSt, lstS, sline, this]) (fun ys z => by
      have := eqD_listnil (ys ++ [z])
      simp at this
      simp [S__law_near_c1, nearSt, lstS, sline, this]) (fun ys z => by
      simp [S__law_near_b2, nearSt, sPop0, ownI]) (w + msr (nearSt xs n wt row a5 a6 a7 a8)) row (by omega)
  simp [S__law_near_k4, h3]
  rcases h2 with rfl | ⟨zs, z, rfl, hz⟩
  · have := eqD_listnil []
    simp at this
    simp [S__law_near_k3, nearSt, lstS, sline, this]
    exact ⟨xs, by simp, hx, by omega, hbx, hs⟩
  · have := eqD_listnil (zs ++ [z])
    simp at this
    simp [S__law_near_k3, nearSt, lstS, sline, this, biS]
    have hzs : okRow (zs ++ [z]) := fun x hx => ho x (by rw [e]; exact List.mem_append_left _ hx)
    have hlen : (zs ++ [z]).length ≤ row.length := by rw [e]; simp
    have hzz := hzs z (by simp)
    simp at hlen
    refine ⟨zs ++ [z], by simp, ⟨by simp, by simp; omega, hzs, z, by simp, by omega⟩, by simp; omega, fun x hx => hb x (by rw [e]; exact List.mem_append_left _ hx), hs⟩
theorem s__law_nearB {call : Str → List D → M D} {w : Nat} (hw : 1 ≤ w) (ht : call "_law_take" = takeP) : Sp__law_nearB (S__law_near call w) := by
  intro xs n wt s hs hx n1 n2 w1 w2 B hB hwB hbx
  unfold S__law_near
  rw [runS_4]
  have hl := hx.most
  have h1 := hx.one
  have g0 := tv_lo (n := 3) (s := s) (by decide)
  have g1 := tv_hi (n := 3) (s := s) (by decide)
  have hs1 := OkS_ts (n := 3) hs
  have ea : binop .Add (.list (xs.map .int)) (.list (List.replicate (tv 3 s).toNat (.int 0))) = _ := binop_addL (sl (by simp; omega))
  have hz : binop .Mult (.list [.int 0]) (.int (tv 3 s)) = _ := binop_mulL (by omega) (by omega)
  simp [-List.reduceReplicate, startN, bd_at, stE_at, thenF_at, quiet_at, ifeS, tstS, cmp1, cmp2, binS, ixS, slS, optS, biS, callS, lstS, tupS, iterS, evsS_cons, asBool, asInt, sFor, sAsg, sIf, sRet, sExp, sTup, negS, notS, andS, orS, callF_eq, sline, take_T ht hs, hz, ea]
  obtain ⟨row0, hr0, hr1, hrB, hr2⟩ : ∃ row0 : List Int, xs.map PyData.int ++ List.replicate (tv 3 s).toNat (.int 0) = row0.map .int ∧ okRow row0 ∧ nB B row0 ∧ 1 ≤ row0.length := ⟨xs ++ List.replicate (tv 3 s).toNat 0, by simp, fun x hx' => by
    rcases List.mem_append.mp hx' with h | h
    · exact hx.wt x h
    · rw [List.eq_of_mem_replicate h]; decide, fun x hx' => by
    rcases List.mem_append.mp hx' with h | h
    · exact hbx x h
    · rw [List.eq_of_mem_replicate h]; omega, by simp; omega⟩
  rw [hr0]
  have ct := cut_to (row0.map PyData.int) (k := n) (by omega)
  rw [← List.map_take] at ct
  simp [S__law_near_k7, bd_at, stE_at, thenF_at, quiet_at, ifeS, tstS, cmp1, cmp2, binS, ixS, slS, optS, biS, callS, lstS, tupS, iterS, evsS_cons, asBool, asInt, sFor, sAsg, sIf, sRet, sExp, sTup, negS, notS, andS, orS, callF_eq, -List.map_take]
  rw [ct]
  generalize hr : row0.take n.toNat = row at *
  have r1 : 1 ≤ row.length := by rw [← hr, List.length_take]; omega
  have r2 : (row.length : Int) ≤ n := by rw [← hr, List.length_take]; omega
  have r3 : okRow row := fun x h => hr1 x (by rw [← hr] at h; exact List.mem_of_mem_take h)
  have r4 : nB B row := fun x h => hrB x (by rw [← hr] at h; exact List.mem_of_mem_take h)
  have g2 := tv_lo (n := 3) (s := ts 3 s) (by decide)
  have g3 := tv_hi (n := 3) (s := ts 3 s) (by decide)
  have hs2 := OkS_ts (n := 3) hs1
  have hrg := range0 (n := 1 + tv 3 (ts 3 s)) (by omega) (by omega)
  simp [S__law_near_k6, bd_at, stE_at, thenF_at, quiet_at, ifeS, tstS, cmp1, cmp2, binS, ixS, slS, optS, biS, callS, lstS, tupS, iterS, evsS_cons, asBool, asInt, sFor, sAsg, sIf, sRet, sExp, sTup, negS, notS, andS, orS, callF_eq, take_T ht hs1, hrg]
  refine Res.sat.bnd (Res.sat.mono (Q := fun fl s' => ∃ ys o, fl = .ret (tupD ys) o ∧ IsDr ys ∧ (ys.length : Int) ≤ max n xs.length ∧ nB (B + 6) ys ∧ OkS s') (Res.sat.qt (Res.sat.fl (forL_ds _ (fun k σ s => OkS s ∧ ∃ row' a5 a6 a7 a8, σ = nearSt xs n wt row' a5 a6 a7 a8 ∧ row'.length = row.length ∧ okRow row' ∧ nB (B + 2 * (k : Int)) row') (fun k v σ s hv ⟨hs, row', a5, a6, a7, a8, e, q1, q2, q3⟩ => ?_) ⟨hs2, row, none, none, none, none, rfl, rfl, r3, fun x hx => by have := r4 x hx; omega⟩) fun σ s ⟨hs, row', a5, a6, a7, a8, e, q1, q2, q3⟩ => ?_)) fun fl s' ⟨ys, o, e, h1, h2, h4, h3⟩ => ?_)
  · subst e
    refine ⟨_, rfl, ?_⟩
    have hk : k < 3 := by
      have := List.getElem?_eq_some_iff.mp hv
      obtain ⟨h, _⟩ := this
      simp at h
      omega
    have := near_turnB (w := w) ht (xs := xs) (n := n) (wt := wt) (by omega : 1 ≤ row'.length) (by omega) q2 (B := B + 2 * (k : Int)) (by omega) q3 (some (v, false)) a6 a7 a8 hs
    refine Res.sat.mono this fun fl s' h => ?_
    cases fl with
    | nx σ => obtain ⟨h1, row2, a6, a7, a8, e, h2, h3, h4⟩ := h; exact ⟨h1, row2, _, a6, a7, a8, e, by omega, h3, fun x hx => by have := h4 x hx; omega⟩
    | ct σ => obtain ⟨h1, row2, a6, a7, a8, e, h2, h3, h4⟩ := h; exact ⟨h1, row2, _, a6, a7, a8, e, by omega, h3, fun x hx => by have := h4 x hx; omega⟩
    | _ => exact h.elim
  · subst e
    have hw1 : (0 : Int) < wt + 1 := by omega
    have hw2 : wt + 1 < 2 ^ 64 := by omega
    have k0 := tv_lo (s := s) hw1
    have k1 := tv_hi (s := s) hw1
    have hs3 := OkS_ts (n := wt + 1) hs
    have hR : (0 : Int) < (row'.length : Int) := by omega
    have i0 := tv_lo (s := ts (wt + 1) s) hR
    have i1 := tv_hi (s := ts (wt + 1) s) hR
    have hs4 := OkS_ts (n := row'.length) hs3
    have xi : L2.ixN row'.length (tv row'.length (ts (wt + 1) s)) = some (tv row'.length (ts (wt + 1) s)).toNat := ixN_nn i0 i1
    have q4 : nB (B + 6) (row'.set (tv row'.length (ts (wt + 1) s)).toNat (tv (wt + 1) s)) := fun x hx => by
      rcases List.mem_or_eq_of_mem_set hx with hx | rfl
      · have := q3 x hx
        simp at this
        omega
      · omega
    have hend := near_endB (call := call) hw (n := n) (wt := wt) hx (row := row'.set (tv row'.length (ts (wt + 1) s)).toNat (tv (wt + 1) s)) (by simp; omega) (q2.set (by omega) (by omega)) (B := B + 6) q4 (fun x hx => by have := hbx x hx; omega) a5 a6 a7 a8 hs4
    simp [S__law_near_k5, nearSt, sSub, ownI, bd_at, stE_at, thenF_at, quiet_at, ifeS, tstS, cmp1, cmp2, binS, ixS, slS, optS, biS, callS, lstS, tupS, iterS, evsS_cons, asBool, asInt, sFor, sAsg, sIf, sRet, sExp, sTup, negS, notS, andS, orS, callF_eq, take_T ht hs hw1 hw2, take_T ht hs3 hR (by omega : (row'.length : Int) < 2 ^ 64), xi]
    unfold nearSt at hend
    rw [← set_mapI] at hend
    refine Res.sat.mono hend fun fl s' ⟨ys, o, e, h1, h2, h5, h3⟩ => ⟨ys, ?_, h1, ?_, h5, h3⟩
    · cases o <;> simp [e]
    · simp at h2
      omega
  · subst e
    simp
    exact ⟨ys, rfl, h1, h2, h4, h3⟩
def Sp__law_pairB (f : List D → M D) : Prop := ∀ (n wt : Int) (s : DS), OkS s → 1 ≤ n → n ≤ 30 → 1 ≤ wt → wt ≤ 1000 → (f [tok, .int n, .int wt] s).sat fun d s' => ∃ a b : List Int, d = .list [tupD a, tupD b] ∧ IsDr a ∧ IsDr b ∧ (a.length : Int) ≤ n ∧ (b.length : Int) ≤ n ∧ nB (wt + 6) a ∧ nB (wt + 6) b ∧ OkS s'
theorem s__law_pairB {call : Str → List D → M D} {w : Nat} (ht : call "_law_take" = takeP) (h1 : Sp__law_dice (call "_law_dice")) (h2 : Sp__law_nearB (call "_law_near")) : Sp__law_pairB (S__law_pair call w) := by
  intro n wt s hs n1 n2 w1 w2
  unfold S__law_pair
  rw [runS_3]
  obtain ⟨d, s1, e1, a, rfl, da, hs1⟩ := (h1 n wt s hs n1 (by omega) w1 (by omega)).ex
  have ha := da.dr n2 (by omega)
  have ba : nB (wt + 6) a := fun x hx => by have := da.wt x hx; omega
  have hal := da.most
  have hs2 := OkS_ts (n := 3) hs1
  have fin : ∀ (b : List Int) (s' : DS), OkS s' → IsDr b → (b.length : Int) ≤ n → nB (wt + 6) b →
    ((stE (ifeS (cmp1 (callF call "_law_take" [pure tok, pure (.int 2)]) (pure (.int 0)) .Eq) (lstS [pure (tupD a), pure (tupD b)]) (lstS [pure (tupD b), pure (tupD a)])) [some (tok, false), some (.int n, false), some (.int wt, false), some (tupD a, false), some (tupD b, false)] (fun d => (pure (.ret d (true && isL d)) : M Flow))) s').sat fun fl s' => ∃ (a b : List Int) (o : Bool), fl = .ret (.list [tupD a, tupD b]) o ∧ IsDr a ∧ IsDr b ∧ (a.length : Int) ≤ n ∧ (b.length : Int) ≤ n ∧ nB (wt + 6) a ∧ nB (wt + 6) b ∧ OkS s' := fun b s' hs' hb hbl hbb => by
    have hs3 := OkS_ts (n := 2) hs'
    by_cases c : tv 2 s' = 0
    · simp [bd_at, stE_at, thenF_at, quiet_at, ifeS, tstS, cmp1, cmp2, binS, ixS, slS, optS, biS, callS, lstS, tupS, iterS, evsS_cons, asBool, asInt, sFor, sAsg, sIf, sRet, sExp, sTup, negS, notS, andS, orS, callF_eq, take_T ht hs', c, sline]
      exact ⟨a, b, ⟨rfl, rfl⟩, ha, hb, hal, hbl, ba, hbb, hs3⟩
    · simp [bd_at, stE_at, thenF_at, quiet_at, ifeS, tstS, cmp1, cmp2, binS, ixS, slS, optS, biS, callS, lstS, tupS, iterS, evsS_cons, asBool, asInt, sFor, sAsg, sIf, sRet, sExp, sTup, negS, notS, andS, orS, callF_eq, take_T ht hs', c, sline]
      exact ⟨b, a, ⟨rfl, rfl⟩, hb, ha, hbl, hal, hbb, ba, hs3⟩
  by_cases c : 0 < tv 3 s1
  · obtain ⟨d, s4, e4, b, rfl, hb, hbl, hbb, hs4⟩ := (h2 a n wt (ts 3 s1) hs2 ha n1 n2 w1 (by omega) wt (by omega) (by omega) (fun x hx => (da.wt x hx).2)).ex
    obtain ⟨fl, s5, e5, a', b', o, rfl, q1, q2, q3, q4, q6, q7, q5⟩ := (fin b s4 hs4 hb (by omega) hbb).ex
    simp [bd_at, stE_at, thenF_at, quiet_at, ifeS, tstS, cmp1, cmp2, binS, ixS, slS, optS, biS, callS, lstS, tupS, iterS, evsS_cons, asBool, asInt, sFor, sAsg, sIf, sRet, sExp, sTup, negS, notS, andS, orS, callF_eq, sline] at e5
    simp [startN, bd_at, stE_at, thenF_at, quiet_at, ifeS, tstS, cmp1, cmp2, binS, ixS, slS, optS, biS, callS, lstS, tupS, iterS, evsS_cons, asBool, asInt, sFor, sAsg, sIf, sRet, sExp, sTup, negS, notS, andS, orS, callF_eq, e1, take_T ht hs1, c, e4, sline]
    rw [e5]
    simp
    exact ⟨a', b', ⟨rfl, rfl⟩, q1, q2, q3, q4, q6, q7, q5⟩
  · obtain ⟨d, s4, e4, b, rfl, hb, hs4⟩ := (h1 n wt (ts 3 s1) hs2 n1 (by omega) w1 (by omega)).ex
    obtain ⟨fl, s5, e5, a', b', o, rfl, q1, q2, q3, q4, q6, q7, q5⟩ := (fin b s4 hs4 (hb.dr n2 (by omega)) hb.most (fun x hx => by have := hb.wt x hx; omega)).ex
    simp [bd_at, stE_at, thenF_at, quiet_at, ifeS, tstS, cmp1, cmp2, binS, ixS, slS, optS, biS, callS, lstS, tupS, iterS, evsS_cons, asBool, asInt, sFor, sAsg, sIf, sRet, sExp, sTup, negS, notS, andS, orS, callF_eq, sline] at e5
    simp [startN, bd_at, stE_at, thenF_at, quiet_at, ifeS, tstS, cmp1, cmp2, binS, ixS, slS, optS, biS, callS, lstS, tupS, iterS, evsS_cons, asBool, asInt, sFor, sAsg, sIf, sRet, sExp, sTup, negS, notS, andS, orS, callF_eq, e1, take_T ht hs1, c, e4, sline]
    rw [e5]
    simp
    exact ⟨a', b', ⟨rfl, rfl⟩, q1, q2, q3, q4, q6, q7, q5⟩
end Py

set_option Elab.async false
set_option linter.all false
set_option maxRecDepth 100000
namespace Py
open PySem
def S_check_deed (call : Str → List D → M D) (w : Nat) : List D → M D := runS ⟨false, false⟩ 1 1 fun σ =>
  thenF (sIf σ (orS [(notS (isiS (rd σ 0) ("str" : Str))), (cmp1 (rd σ 0) (pure (.tuple [.str "sum", .str "mix", .str "greatest", .str "least", .str "map"])) .NotIn)])
  (thenF (sRaise ("Malformed" : Str) σ) fun σ =>
    sEnd σ)
  (sEnd σ)) fun σ =>
  sEnd σ

def S_is_map_e0 (call : Str → List D → M D) (w : Nat) (σ : St) : M D :=
  (andS [(callS call ("is_whole" : Str) [(rdV σ 3)]), (cmp2 (pure (.int 1)) (rd σ 3) (pure (.int 30)) .LtE .LtE)])
def S_is_map_e1 (call : Str → List D → M D) (w : Nat) (σ : St) : M D :=
  (cmp1 (ixS (rd σ 0) (binS .Sub (rd σ 2) (pure (.int 1)))) (ixS (rd σ 0) (rd σ 2)) .LtE)
def S_is_map (call : Str → List D → M D) (w : Nat) : List D → M D := runS ⟨false, false⟩ 2 4 fun σ =>
  thenF (sIf σ (orS [(notS (isiS (rd σ 0) ("tuple" : Str))), (notS (cmp2 (rd σ 1) (biS ("len" : Str) [(rd σ 0)]) (pure (.int 30)) .LtE .LtE))])
  (thenF (sRet (frz σ [0, 1]) (pure (.bool false)) false) fun σ =>
    sEnd σ)
  (sEnd σ)) fun σ =>
  thenF (sIf σ (notS (biS ("all" : Str) [(compS (dataI (rd σ 0)) (fun d => bindG (.one 3) (wipe σ [3]) d) (fun _ => pure true) (S_is_map_e0 call w))]))
  (thenF (sRet (frz σ [0, 1]) (pure (.bool false)) false) fun σ =>
    sEnd σ)
  (sEnd σ)) fun σ =>
  thenF (sRet (frz σ [0, 1]) (biS ("all" : Str) [(compS (iterS ("range" : Str) [(pure (.int 1)), (biS ("len" : Str) [(rd (frz σ [0, 1]) 0)])]) (fun d => bindG (.one 2) (wipe (frz σ [0, 1]) [2]) d) (fun _ => pure true) (S_is_map_e1 call w))]) false) fun σ =>
  sEnd σ

def S_is_other (call : Str → List D → M D) (w : Nat) : List D → M D := runS ⟨false, false⟩ 3 3 fun σ =>
  thenF (sRet (frz σ [0, 1, 2]) (ifeS (cmp1 (rd (frz σ [0, 1, 2]) 0) (pure (.str "map")) .Eq) (callS call ("is_map" : Str) [(rdV (frz σ [0, 1, 2]) 1), (rdV (frz σ [0, 1, 2]) 2)]) (callS call ("is_draw" : Str) [(rdV (frz σ [0, 1, 2]) 1)])) false) fun σ =>
  sEnd σ

def S_added_b0 (call : Str → List D → M D) (w : Nat) (σ : St) : M Flow :=
  thenF (sAugS σ 2 (binS .Add (binS .Add (rd σ 3) (rd σ 5)) (pure (.int 1))) .Add (binS .Mult (rd σ 4) (rd σ 6))) fun σ =>
  sEnd σ
def S_added_b1 (call : Str → List D → M D) (w : Nat) (σ : St) : M Flow :=
  thenF (sFor (frz σ [1]) (iterS ("enumerate" : Str) [(rdV (frz σ [1]) 1)]) (.many [5, 6]) (S_added_b0 call w)) fun σ =>
  sEnd σ
def S_added (call : Str → List D → M D) (w : Nat) : List D → M D := runS ⟨false, false⟩ 2 7 fun σ =>
  thenF (sAsg σ (binS .Mult (lstS [(pure (.int 0))]) (binS .Add (biS ("len" : Str) [(rd σ 0)]) (biS ("len" : Str) [(rd σ 1)]))) 2 true) fun σ =>
  thenF (sFor (frz σ [0]) (iterS ("enumerate" : Str) [(rdV (frz σ [0]) 0)]) (.many [3, 4]) (S_added_b1 call w)) fun σ =>
  thenF (sRetN σ 2) fun σ =>
  sEnd σ

def S_picked_b0 (call : Str → List D → M D) (w : Nat) (σ : St) : M Flow :=
  thenF (sAugS σ 3 (ifeS (cmp1 (rd σ 2) (pure (.str "greatest")) .Eq) (biS ("max" : Str) [(rd σ 4), (rd σ 6)]) (biS ("min" : Str) [(rd σ 4), (rd σ 6)])) .Add (binS .Mult (rd σ 5) (rd σ 7))) fun σ =>
  sEnd σ
def S_picked_b1 (call : Str → List D → M D) (w : Nat) (σ : St) : M Flow :=
  thenF (sFor (frz σ [1]) (iterS ("enumerate" : Str) [(rdV (frz σ [1]) 1)]) (.many [6, 7]) (S_picked_b0 call w)) fun σ =>
  sEnd σ
def S_picked (call : Str → List D → M D) (w : Nat) : List D → M D := runS ⟨false, false⟩ 3 8 fun σ =>
  thenF (sAsg σ (binS .Mult (lstS [(pure (.int 0))]) (biS ("max" : Str) [(biS ("len" : Str) [(rd σ 0)]), (biS ("len" : Str) [(rd σ 1)])])) 3 true) fun σ =>
  thenF (sFor (frz σ [0]) (iterS ("enumerate" : Str) [(rdV (frz σ [0]) 0)]) (.many [4, 5]) (S_picked_b1 call w)) fun σ =>
  thenF (sRetN σ 3) fun σ =>
  sEnd σ

def S_mixed_e0 (call : Str → List D → M D) (w : Nat) (σ : St) : M D :=
  (binS .Add (binS .Mult (rd σ 5) (biS ("sum" : Str) [(rd σ 1)])) (binS .Mult (rd σ 6) (biS ("sum" : Str) [(rd σ 0)])))
def S_mixed (call : Str → List D → M D) (w : Nat) : List D → M D := runS ⟨false, false⟩ 2 7 fun σ =>
  thenF (sAsg σ (biS ("max" : Str) [(biS ("len" : Str) [(rd σ 0)]), (biS ("len" : Str) [(rd σ 1)])]) 2 false) fun σ =>
  thenF (sParN σ [false, false] [(binS .Add (biS ("list" : Str) [(rd σ 0)]) (binS .Mult (lstS [(pure (.int 0))]) (binS .Sub (rd σ 2) (biS ("len" : Str) [(rd σ 0)])))), (binS .Add (biS ("list" : Str) [(rd σ 1)]) (binS .Mult (lstS [(pure (.int 0))]) (binS .Sub (rd σ 2) (biS ("len" : Str) [(rd σ 1)]))))] [3, 4]) fun σ =>
  thenF (sRet (frz σ [0, 1, 2, 3, 4]) (compS (iterS ("zip" : Str) [(rd (frz σ [0, 1, 2, 3, 4]) 3), (rd (frz σ [0, 1, 2, 3, 4]) 4)]) (fun d => bindG (.many [5, 6]) (wipe (frz σ [0, 1, 2, 3, 4]) [5, 6]) d) (fun _ => pure true) (S_mixed_e0 call w)) true) fun σ =>
  sEnd σ

def S_mapped_b0 (call : Str → List D → M D) (w : Nat) (σ : St) : M Flow :=
  thenF (sAugS σ 2 (binS .Sub (rd σ 3) (pure (.int 1))) .Add (rdV σ 4)) fun σ =>
  sEnd σ
def S_mapped (call : Str → List D → M D) (w : Nat) : List D → M D := runS ⟨false, false⟩ 2 5 fun σ =>
  thenF (sAsg σ (binS .Mult (lstS [(pure (.int 0))]) (biS ("max" : Str) [(rd σ 1)])) 2 true) fun σ =>
  thenF (sFor (frz σ [1, 0]) (iterS ("zip" : Str) [(rdV (frz σ [1, 0]) 1), (rdV (frz σ [1, 0]) 0)]) (.many [3, 4]) (S_mapped_b0 call w)) fun σ =>
  thenF (sRetN σ 2) fun σ =>
  sEnd σ

def S_done_row (call : Str → List D → M D) (w : Nat) : List D → M D := runS ⟨false, false⟩ 3 3 fun σ =>
  thenF (sIf σ (cmp1 (rd σ 0) (pure (.str "sum")) .Eq)
  (thenF (sRet (frz σ [0, 1, 2]) (callS call ("added" : Str) [(rdV (frz σ [0, 1, 2]) 1), (rdV (frz σ [0, 1, 2]) 2)]) false) fun σ =>
    sEnd σ)
  (sEnd σ)) fun σ =>
  thenF (sIf σ (cmp1 (rd σ 0) (pure (.str "mix")) .Eq)
  (thenF (sRet (frz σ [0, 1, 2]) (callS call ("mixed" : Str) [(rdV (frz σ [0, 1, 2]) 1), (rdV (frz σ [0, 1, 2]) 2)]) false) fun σ =>
    sEnd σ)
  (sEnd σ)) fun σ =>
  thenF (sIf σ (cmp1 (rd σ 0) (pure (.str "map")) .Eq)
  (thenF (sRet (frz σ [0, 1, 2]) (callS call ("mapped" : Str) [(rdV (frz σ [0, 1, 2]) 1), (rdV (frz σ [0, 1, 2]) 2)]) false) fun σ =>
    sEnd σ)
  (sEnd σ)) fun σ =>
  thenF (sRet (frz σ [0, 1, 2]) (callS call ("picked" : Str) [(rdV (frz σ [0, 1, 2]) 1), (rdV (frz σ [0, 1, 2]) 2), (rdV (frz σ [0, 1, 2]) 0)]) false) fun σ =>
  sEnd σ

def S_ended_c0 (call : Str → List D → M D) (w : Nat) (σ : St) : M D :=
  (cmp1 (ixS (rd σ 1) (negS (pure (.int 1)))) (pure (.int 0)) .Eq)
def S_ended_b1 (call : Str → List D → M D) (w : Nat) (σ : St) : M Flow :=
  thenF (sPop0 σ 1) fun σ =>
  sEnd σ
def S_ended (call : Str → List D → M D) (w : Nat) : List D → M D := runS ⟨false, false⟩ 1 3 fun σ =>
  thenF (sAsg σ (biS ("list" : Str) [(rd σ 0)]) 1 true) fun σ =>
  thenF (sWhile (S_ended_c0 call w) (S_ended_b1 call w) (w + msr σ) σ) fun σ =>
  thenF (sIf σ (cmp1 (biS ("len" : Str) [(rd σ 1)]) (pure (.int 30)) .Gt)
  (thenF (sRet (frz σ [0, 1, 2]) (pure (.none)) false) fun σ =>
    sEnd σ)
  (sEnd σ)) fun σ =>
  thenF (sAsg (frz σ [1]) (callS call ("lowest_row" : Str) [(rdV (frz σ [1]) 1)]) 2 false) fun σ =>
  thenF (sRet (frz σ [0, 1, 2]) (ifeS (cmp1 (biS ("max" : Str) [(rd (frz σ [0, 1, 2]) 2)]) (pure (.int 1000000)) .LtE) (rdV (frz σ [0, 1, 2]) 2) (pure (.none))) false) fun σ =>
  sEnd σ

def S_lowest_row_c0 (call : Str → List D → M D) (w : Nat) (σ : St) : M D :=
  (cmp1 (rd σ 4) (pure (.int 0)) .Gt)
def S_lowest_row_b1 (call : Str → List D → M D) (w : Nat) (σ : St) : M Flow :=
  thenF (sParN (frz σ [4]) [false, false] [(rdV (frz σ [4]) 4), (binS .Mod (rd (frz σ [4]) 3) (rd (frz σ [4]) 4))] [3, 4]) fun σ =>
  sEnd σ
def S_lowest_row_b2 (call : Str → List D → M D) (w : Nat) (σ : St) : M Flow :=
  thenF (sParN (frz σ [1, 2]) [false, false] [(rdV (frz σ [1, 2]) 1), (rdV (frz σ [1, 2]) 2)] [3, 4]) fun σ =>
  thenF (sWhile (S_lowest_row_c0 call w) (S_lowest_row_b1 call w) (w + msr σ) σ) fun σ =>
  thenF (sAsg (frz σ [3]) (rdV (frz σ [3]) 3) 1 false) fun σ =>
  sEnd σ
def S_lowest_row_e3 (call : Str → List D → M D) (w : Nat) (σ : St) : M D :=
  (binS .FloorDiv (rd σ 2) (rd σ 1))
def S_lowest_row (call : Str → List D → M D) (w : Nat) : List D → M D := runS ⟨false, false⟩ 1 5 fun σ =>
  thenF (sAsg σ (pure (.int 0)) 1 false) fun σ =>
  thenF (sFor (frz (frz σ [0]) [0]) (dataI (rdV (frz (frz σ [0]) [0]) 0)) (.one 2) (S_lowest_row_b2 call w)) fun σ =>
  thenF (sRet (frz σ [0, 1, 2, 3, 4]) (biS ("tuple" : Str) [(compS (dataI (rd (frz σ [0, 1, 2, 3, 4]) 0)) (fun d => bindG (.one 2) (wipe (frz σ [0, 1, 2, 3, 4]) [2]) d) (fun _ => pure true) (S_lowest_row_e3 call w))]) false) fun σ =>
  sEnd σ

def S_done (call : Str → List D → M D) (w : Nat) : List D → M D := runS ⟨false, false⟩ 3 4 fun σ =>
  thenF (sExp (frz σ [0]) (callS call ("check_deed" : Str) [(rdV (frz σ [0]) 0)])) fun σ =>
  thenF (sExp (frz σ [1]) (callS call ("check_draw" : Str) [(rdV (frz σ [1]) 1)])) fun σ =>
  thenF (sIf σ (notS (callS call ("is_other" : Str) [(rdV σ 0), (rdV σ 2), (biS ("len" : Str) [(rd σ 1)])]))
  (thenF (sRaise ("Malformed" : Str) σ) fun σ =>
    sEnd σ)
  (sEnd σ)) fun σ =>
  thenF (sAsg (frz σ [0, 1, 2]) (callS call ("ended" : Str) [(callS call ("done_row" : Str) [(rdV (frz σ [0, 1, 2]) 0), (rdV (frz σ [0, 1, 2]) 1), (rdV (frz σ [0, 1, 2]) 2)])]) 3 false) fun σ =>
  thenF (sIf σ (cmp1 (rd σ 3) (pure (.none)) .Is)
  (thenF (sRaiseF ("Refused" : Str) ("large" : Str) σ) fun σ =>
    sEnd σ)
  (sEnd σ)) fun σ =>
  thenF (sRetN σ 3) fun σ =>
  sEnd σ

def S__law_least_row_c0 (call : Str → List D → M D) (w : Nat) (σ : St) : M D :=
  (cmp1 (ixS (rd σ 1) (negS (pure (.int 1)))) (pure (.int 0)) .Eq)
def S__law_least_row_b1 (call : Str → List D → M D) (w : Nat) (σ : St) : M Flow :=
  thenF (sPop0 σ 1) fun σ =>
  sEnd σ
def S__law_least_row_c2 (call : Str → List D → M D) (w : Nat) (σ : St) : M D :=
  (cmp1 (rd σ 5) (pure (.int 0)) .NotEq)
def S__law_least_row_b3 (call : Str → List D → M D) (w : Nat) (σ : St) : M Flow :=
  thenF (sParN (frz σ [5]) [false, false] [(rdV (frz σ [5]) 5), (binS .Mod (biS ("int" : Str) [(rd (frz σ [5]) 4)]) (rd (frz σ [5]) 5))] [4, 5]) fun σ =>
  sEnd σ
def S__law_least_row_b4 (call : Str → List D → M D) (w : Nat) (σ : St) : M Flow :=
  thenF (sParN (frz σ [2, 3]) [false, false] [(rdV (frz σ [2, 3]) 2), (rdV (frz σ [2, 3]) 3)] [4, 5]) fun σ =>
  thenF (sWhile (S__law_least_row_c2 call w) (S__law_least_row_b3 call w) (w + msr σ) σ) fun σ =>
  thenF (sAsg (frz σ [4]) (rdV (frz σ [4]) 4) 2 false) fun σ =>
  sEnd σ
def S__law_least_row_e5 (call : Str → List D → M D) (w : Nat) (σ : St) : M D :=
  (binS .FloorDiv (rd σ 3) (rd σ 2))
def S__law_least_row (call : Str → List D → M D) (w : Nat) : List D → M D := runS ⟨false, false⟩ 1 6 fun σ =>
  thenF (sAsg σ (biS ("list" : Str) [(rd σ 0)]) 1 true) fun σ =>
  thenF (sWhile (S__law_least_row_c0 call w) (S__law_least_row_b1 call w) (w + msr σ) σ) fun σ =>
  thenF (sAsg σ (pure (.int 0)) 2 false) fun σ =>
  thenF (sFor (frz (frz σ [1]) [1]) (dataI (rdV (frz (frz σ [1]) [1]) 1)) (.one 3) (S__law_least_row_b4 call w)) fun σ =>
  thenF (sRet (frz σ [0, 1, 2, 3, 4, 5]) (compS (dataI (rd (frz σ [0, 1, 2, 3, 4, 5]) 1)) (fun d => bindG (.one 3) (wipe (frz σ [0, 1, 2, 3, 4, 5]) [3]) d) (fun _ => pure true) (S__law_least_row_e5 call w)) true) fun σ =>
  sEnd σ

def S__law_done_b0 (call : Str → List D → M D) (w : Nat) (σ : St) : M Flow :=
  thenF (sSub σ 3 (ixS (rd σ 2) (rd σ 5)) (binS .Add (ixS (rd σ 3) (ixS (rd σ 2) (rd σ 5))) (ixS (rd σ 1) (rd σ 5)))) fun σ =>
  sEnd σ
def S__law_done_b1 (call : Str → List D → M D) (w : Nat) (σ : St) : M Flow :=
  thenF (sSub σ 3 (binS .Add (rd σ 5) (pure (.int 1))) (binS .Add (ixS (rd σ 3) (binS .Add (rd σ 5) (pure (.int 1)))) (binS .Mult (ixS (rd σ 1) (rd σ 5)) (biS ("sum" : Str) [(rd σ 2)])))) fun σ =>
  sEnd σ
def S__law_done_b2 (call : Str → List D → M D) (w : Nat) (σ : St) : M Flow :=
  thenF (sSub σ 3 (binS .Add (rd σ 5) (pure (.int 1))) (binS .Add (ixS (rd σ 3) (binS .Add (rd σ 5) (pure (.int 1)))) (binS .Mult (ixS (rd σ 2) (rd σ 5)) (biS ("sum" : Str) [(rd σ 1)])))) fun σ =>
  sEnd σ
def S__law_done_b3 (call : Str → List D → M D) (w : Nat) (σ : St) : M Flow :=
  thenF (sAsg σ (ifeS (cmp1 (rd σ 0) (pure (.str "sum")) .Eq) (binS .Add (rd σ 6) (rd σ 7)) (ifeS (cmp1 (rd σ 0) (pure (.str "greatest")) .Eq) (biS ("max" : Str) [(rd σ 6), (rd σ 7)]) (biS ("min" : Str) [(rd σ 6), (rd σ 7)]))) 8 false) fun σ =>
  thenF (sSub σ 3 (rdV σ 8) (binS .Add (ixS (rd σ 3) (rd σ 8)) (binS .Mult (ixS (rd σ 1) (binS .Sub (rd σ 6) (pure (.int 1)))) (ixS (rd σ 2) (binS .Sub (rd σ 7) (pure (.int 1))))))) fun σ =>
  sEnd σ
def S__law_done_b4 (call : Str → List D → M D) (w : Nat) (σ : St) : M Flow :=
  thenF (sFor σ (iterS ("range" : Str) [(pure (.int 1)), (binS .Add (biS ("len" : Str) [(rd σ 2)]) (pure (.int 1)))]) (.one 7) (S__law_done_b3 call w)) fun σ =>
  sEnd σ
def S__law_done_k5 (call : Str → List D → M D) (w : Nat) (σ : St) : M Flow :=
  thenF (sRet (frz σ [0, 1, 2, 3, 4, 5, 6, 7, 8]) (ifeS (andS [(cmp1 (biS ("len" : Str) [(rd (frz σ [0, 1, 2, 3, 4, 5, 6, 7, 8]) 4)]) (pure (.int 30)) .LtE), (cmp1 (biS ("max" : Str) [(rd (frz σ [0, 1, 2, 3, 4, 5, 6, 7, 8]) 4)]) (pure (.int 1000000)) .LtE)]) (biS ("tuple" : Str) [(rd (frz σ [0, 1, 2, 3, 4, 5, 6, 7, 8]) 4)]) (pure (.none))) false) fun σ =>
  sEnd σ
def S__law_done_k6 (call : Str → List D → M D) (w : Nat) (σ : St) : M Flow :=
  thenF (sAsg σ (callS call ("_law_least_row" : Str) [(slS (rd σ 3) (some (pure (.int 1))) none)]) 4 false) (S__law_done_k5 call w)
def S__law_done_k7 (call : Str → List D → M D) (w : Nat) (σ : St) : M Flow :=
  thenF (sIf σ (cmp1 (rd σ 0) (pure (.str "map")) .Eq)
  (thenF (sFor σ (iterS ("range" : Str) [(biS ("len" : Str) [(rd σ 1)])]) (.one 5) (S__law_done_b0 call w)) fun σ =>
    sEnd σ)
  (thenF (sIf σ (cmp1 (rd σ 0) (pure (.str "mix")) .Eq)
    (thenF (sFor σ (iterS ("range" : Str) [(biS ("len" : Str) [(rd σ 1)])]) (.one 5) (S__law_done_b1 call w)) fun σ =>
      thenF (sFor σ (iterS ("range" : Str) [(biS ("len" : Str) [(rd σ 2)])]) (.one 5) (S__law_done_b2 call w)) fun σ =>
      sEnd σ)
    (thenF (sFor σ (iterS ("range" : Str) [(pure (.int 1)), (binS .Add (biS ("len" : Str) [(rd σ 1)]) (pure (.int 1)))]) (.one 6) (S__law_done_b4 call w)) fun σ =>
      sEnd σ)) fun σ =>
    sEnd σ)) (S__law_done_k6 call w)
def S__law_done (call : Str → List D → M D) (w : Nat) : List D → M D := runS ⟨false, false⟩ 3 9 fun σ =>
  thenF (sAsg σ (binS .Mult (lstS [(pure (.int 0))]) (pure (.int 61))) 3 true) (S__law_done_k7 call w)

def S__law_map_b0 (call : Str → List D → M D) (w : Nat) (σ : St) : M Flow :=
  thenF (sAsg σ (biS ("min" : Str) [(pure (.int 30)), (binS .Add (rd σ 3) (ixS (lstS [(pure (.int 0)), (pure (.int 0)), (pure (.int 1)), (pure (.int 1)), (pure (.int 2)), (pure (.int 5))]) (callF call ("_law_take" : Str) [(rd σ 0), (pure (.int 6))])))]) 3 false) fun σ =>
  thenF (sApp (frz σ [3]) 2 (rdV (frz σ [3]) 3)) fun σ =>
  sEnd σ
def S__law_map (call : Str → List D → M D) (w : Nat) : List D → M D := runS ⟨false, false⟩ 2 5 fun σ =>
  thenF (sAsg σ (lstS []) 2 true) fun σ =>
  thenF (sAsg σ (pure (.int 1)) 3 false) fun σ =>
  thenF (sFor σ (iterS ("range" : Str) [(binS .Add (rd σ 1) (callF call ("_law_take" : Str) [(rd σ 0), (pure (.int 2))]))]) (.one 4) (S__law_map_b0 call w)) fun σ =>
  thenF (sRet (frz σ [0, 1, 2, 3, 4]) (biS ("tuple" : Str) [(rd (frz σ [0, 1, 2, 3, 4]) 2)]) false) fun σ =>
  sEnd σ

theorem sAugS_own {σ : St} {l i : Nat} {xs : List Int} {v : Int} (h : σ[l]? = some (some (.list (xs.map .int), true))) (hi : i < xs.length) :
    sAugS σ l (pure (.int (i : Int))) .Add (pure (.int v)) = pure (.nx (σ.set l (some (.list ((addAt xs i v).map .int), true)))) := by
  have h1 : L2.ixN (xs.map PyData.int).length (i : Int) = some i := by
    unfold L2.ixN
    simp
    omega
  have h2 : (xs.map PyData.int)[i]? = some (.int (ix xs i)) := by
    rw [List.getElem?_map, List.getElem?_eq_getElem hi]
    simp [ix, hi]
  unfold sAugS
  rw [ownI_some _ _ _ h]
  simp only [stE_pure, h1, h2]
  simp [augI, addAt, List.map_set]
theorem enum_map0 : ∀ (xs : List Int) (k : Int), enumD k (xs.map PyData.int) = (List.range xs.length).map fun (i : Nat) => PyData.tuple [.int (k + (i : Int)), .int (ix xs i)]
  | [], k => rfl
  | x :: xs, k => by
    rw [List.map_cons, enumD, enum_map0 xs (k + 1), List.length_cons, List.range_succ_eq_map]
    simp [ix]
    intro i hi
    omega
/-- what two rows come to where the pair (i, j) goes to the place pl i j -/
def evI (pl : Nat → Nat → Nat) (b : List Int) (ai : Int) (i : Nat) (r : List Int) : List Int := (List.range b.length).foldl (fun r j => addAt r (pl i j) (ai * ix b j)) r
def evs2 (pl : Nat → Nat → Nat) (a b r : List Int) : List Int := (List.range a.length).foldl (fun r (i : Nat) => evI pl b (ix a i) i r) r
theorem foldl_len {α : Type} (f : List Int → α → List Int) (h : ∀ r x, (f r x).length = r.length) : ∀ (l : List α) (r : List Int), (l.foldl f r).length = r.length
  | [], r => rfl
  | x :: l, r => by rw [List.foldl_cons, foldl_len f h l, h]
theorem evI_len (pl : Nat → Nat → Nat) (b : List Int) (ai : Int) (i : Nat) (r : List Int) : (evI pl b ai i r).length = r.length := foldl_len _ (fun _ _ => by simp) _ _
theorem evs2_len (pl : Nat → Nat → Nat) (a b r : List Int) : (evs2 pl a b r).length = r.length := foldl_len _ (fun _ _ => evI_len ..) _ _
def Sp_added (f : List D → M D) : Prop := ∀ a b : List Int, IsDr a → IsDr b → f [tupD a, tupD b] = pure (lisD (evs2 (fun i j => i + j + 1) a b (List.replicate (a.length + b.length) 0)))
theorem s_added {call : Str → List D → M D} {w : Nat} : Sp_added (S_added call w) := by
  intro a b ha hb
  unfold S_added
  rw [runS_2]
  have la := ha.most
  have lb := hb.most
  have hz : binop .Mult (.list [.int 0]) (.int ((a.length : Int) + (b.length : Int))) = pure (lisD (List.replicate (a.length + b.length) 0)) := by
    rw [binop_mulL (by omega) (by omega)]
    simp [lisD]
    congr 2
  have inner : ∀ (i : Nat), i < a.length → ∀ (r : List Int) (v5 v6 : Sl), r.length = a.length + b.length → ∃ w5 w6, forL (bindG (.many [5, 6])) (S_added_b0 call w) (enumD 0 (b.map PyData.int))
      [some (tupD a, false), some (tupD b, false), some (.list (r.map .int), true), some (.int (i : Int), false), some (.int (ix a i), false), v5, v6] =
      pure (.nx [some (tupD a, false), some (tupD b, false), some (.list ((evI (fun i j => i + j + 1) b (ix a i) i r).map .int), true), some (.int (i : Int), false), some (.int (ix a i), false), w5, w6]) := by
    intro i hi r v5 v6 hr
    rw [enum_map0]
    obtain ⟨⟨w5, w6⟩, e, _⟩ := forL_foldG (enc := fun (j : Nat) => PyData.tuple [.int (0 + (j : Int)), .int (ix b j)]) (bind := bindG (.many [5, 6])) (b := S_added_b0 call w) (fun r j => addAt r (i + j + 1) (ix a i * ix b j))
      (fun r (v : Sl × Sl) => [some (tupD a, false), some (tupD b, false), some (.list (r.map .int), true), some (.int (i : Int), false), some (.int (ix a i), false), v.1, v.2]) (fun r => r.length = a.length + b.length) (List.range b.length)
      (fun j hj r v hr => by
        have hj := List.mem_range.mp hj
        refine ⟨_, rfl, ⟨(some (.int (0 + (j : Int)), false), some (.int (ix b j), false)), ?_⟩, by simpa using hr⟩
        have hm := ha.bt (ix_mem (xs := a) (i := (i : Int)) (by omega) (by omega))
        have hn := hb.bt (ix_mem (xs := b) (i := (j : Int)) (by omega) (by omega))
        have key := sAugS_own (σ := [some (tupD a, false), some (tupD b, false), some (.list (r.map .int), true), some (.int (i : Int), false), some (.int (ix a i), false), some (.int (j : Int), false), some (.int (ix b j), false)]) (l := 2) (i := i + j + 1) (xs := r) (v := ix a i * ix b j) rfl (by omega)
        simp at key
        simp [S_added_b0, bmul hm hn, key]) r hr (v5, v6)
    exact ⟨w5, w6, e⟩
  obtain ⟨v, e, _⟩ := forL_foldG (enc := fun (i : Nat) => PyData.tuple [.int (0 + (i : Int)), .int (ix a i)]) (bind := bindG (.many [3, 4])) (b := S_added_b1 call w) (fun r i => evI (fun i j => i + j + 1) b (ix a i) i r)
    (fun r (v : Sl × Sl × Sl × Sl) => [some (tupD a, false), some (tupD b, false), some (.list (r.map .int), true), v.1, v.2.1, v.2.2.1, v.2.2.2]) (fun r => r.length = a.length + b.length) (List.range a.length)
    (fun i hi r v hr => by
      have hi := List.mem_range.mp hi
      obtain ⟨w5, w6, e⟩ := inner i hi r v.2.2.1 v.2.2.2 hr
      refine ⟨_, rfl, ⟨(some (.int (i : Int), false), some (.int (ix a i), false), w5, w6), ?_⟩, by rw [evI_len]; exact hr⟩
      simp [tupD] at e
      simp [S_added_b1, iterS, tupD, e]) (List.replicate (a.length + b.length) 0) (by simp) (none, none, none, none)
  simp [tupD, lisD] at e hz
  simp [startN, biS, lstS, sline, tupD, hz, iterS, enum_map0, e, sRetN, ownI, evs2, lisD]
def Sp_picked (f : List D → M D) : Prop := (∀ a b : List Int, IsDr a → IsDr b → f [tupD a, tupD b, .str "greatest"] = pure (lisD (evs2 (fun i j => max i j) a b (List.replicate (max a.length b.length) 0)))) ∧
  ∀ a b : List Int, IsDr a → IsDr b → f [tupD a, tupD b, .str "least"] = pure (lisD (evs2 (fun i j => min i j) a b (List.replicate (max a.length b.length) 0)))
theorem picked_of {call : Str → List D → M D} {w : Nat} (dd : Str) (pl : Nat → Nat → Nat) (hpl : ∀ i j a b : Nat, i < a → j < b → pl i j < max a b)
    (hdd : ∀ i j : Nat, (ifeS (do let c ← eqD (.str dd) (.str "greatest"); pure (.bool c)) (pure (.int (max (i : Int) (j : Int)))) (pure (.int (min (i : Int) (j : Int)))) : M D) = pure (.int (pl i j))) {a b : List Int} (ha : IsDr a) (hb : IsDr b) :
    S_picked call w [tupD a, tupD b, .str dd] = pure (lisD (evs2 pl a b (List.replicate (max a.length b.length) 0))) := by
  unfold S_picked
  rw [runS_3]
  have la := ha.most
  have lb := hb.most
  have hmx : max (a.length : Int) (b.length : Int) = ((max a.length b.length : Nat) : Int) := by omega
  have hz : binop .Mult (.list [.int 0]) (.int ((max a.length b.length : Nat) : Int)) = pure (lisD (List.replicate (max a.length b.length) 0)) := by
    rw [binop_mulL (by omega) (by omega)]
    simp [lisD]
  have inner : ∀ (i : Nat), i < a.length → ∀ (r : List Int) (v5 v6 : Sl), r.length = max a.length b.length → ∃ w5 w6, forL (bindG (.many [6, 7])) (S_picked_b0 call w) (enumD 0 (b.map PyData.int))
      [some (tupD a, false), some (tupD b, false), some (.str dd, false), some (.list (r.map .int), true), some (.int (i : Int), false), some (.int (ix a i), false), v5, v6] =
      pure (.nx [some (tupD a, false), some (tupD b, false), some (.str dd, false), some (.list ((evI pl b (ix a i) i r).map .int), true), some (.int (i : Int), false), some (.int (ix a i), false), w5, w6]) := by
    intro i hi r v5 v6 hr
    rw [enum_map0]
    obtain ⟨⟨w5, w6⟩, e, _⟩ := forL_foldG (enc := fun (j : Nat) => PyData.tuple [.int (0 + (j : Int)), .int (ix b j)]) (bind := bindG (.many [6, 7])) (b := S_picked_b0 call w) (fun r j => addAt r (pl i j) (ix a i * ix b j))
      (fun r (v : Sl × Sl) => [some (tupD a, false), some (tupD b, false), some (.str dd, false), some (.list (r.map .int), true), some (.int (i : Int), false), some (.int (ix a i), false), v.1, v.2]) (fun r => r.length = max a.length b.length) (List.range b.length)
      (fun j hj r v hr => by
        have hj := List.mem_range.mp hj
        refine ⟨_, rfl, ⟨(some (.int (0 + (j : Int)), false), some (.int (ix b j), false)), ?_⟩, by simpa using hr⟩
        have hm := ha.bt (ix_mem (xs := a) (i := (i : Int)) (by omega) (by omega))
        have hn := hb.bt (ix_mem (xs := b) (i := (j : Int)) (by omega) (by omega))
        have hp := hpl i j a.length b.length hi hj
        have key := sAugS_own (σ := [some (tupD a, false), some (tupD b, false), some (.str dd, false), some (.list (r.map .int), true), some (.int (i : Int), false), some (.int (ix a i), false), some (.int (j : Int), false), some (.int (ix b j), false)]) (l := 3) (i := pl i j) (xs := r) (v := ix a i * ix b j) rfl (by omega)
        have hd2 := hdd i j
        simp at key
        simp [S_picked_b0, bmul hm hn, biS, hd2, key]) r hr (v5, v6)
    exact ⟨w5, w6, e⟩
  obtain ⟨v, e, _⟩ := forL_foldG (enc := fun (i : Nat) => PyData.tuple [.int (0 + (i : Int)), .int (ix a i)]) (bind := bindG (.many [4, 5])) (b := S_picked_b1 call w) (fun r i => evI pl b (ix a i) i r)
    (fun r (v : Sl × Sl × Sl × Sl) => [some (tupD a, false), some (tupD b, false), some (.str dd, false), some (.list (r.map .int), true), v.1, v.2.1, v.2.2.1, v.2.2.2]) (fun r => r.length = max a.length b.length) (List.range a.length)
    (fun i hi r v hr => by
      have hi := List.mem_range.mp hi
      obtain ⟨w5, w6, e⟩ := inner i hi r v.2.2.1 v.2.2.2 hr
      refine ⟨_, rfl, ⟨(some (.int (i : Int), false), some (.int (ix a i), false), w5, w6), ?_⟩, by rw [evI_len]; exact hr⟩
      simp [tupD] at e
      simp [S_picked_b1, iterS, tupD, e]) (List.replicate (max a.length b.length) 0) (by simp) (none, none, none, none)
  simp [tupD, lisD] at e hz
  simp [startN, biS, lstS, sline, tupD, hmx, hz, iterS, enum_map0, e, sRetN, ownI, evs2, lisD]
theorem s_picked {call : Str → List D → M D} {w : Nat} : Sp_picked (S_picked call w) := by
  refine ⟨fun a b ha hb => picked_of "greatest" (fun i j => max i j) (fun i j a b h1 h2 => by omega) (fun i j => ?_) ha hb, fun a b ha hb => picked_of "least" (fun i j => min i j) (fun i j a b h1 h2 => by omega) (fun i j => ?_) ha hb⟩
  · have : eqD (.str "greatest") (.str "greatest") = pure true := by kernel_rfl
    simp [this]
    congr 2
    omega
  · have : eqD (.str "least") (.str "greatest") = pure false := by kernel_rfl
    simp [this]
    congr 2
    omega
end Py

set_option Elab.async false
set_option linter.all false
set_option maxRecDepth 100000
namespace Py
open PySem
def mixI (a b : List Int) : List Int := (List.range (max a.length b.length)).map fun (i : Nat) => ix a i * b.sum + ix b i * a.sum
def padz (n : Nat) (xs : List Int) : List Int := xs ++ List.replicate (n - xs.length) 0
theorem padz_len {n : Nat} {xs : List Int} (h : xs.length ≤ n) : (padz n xs).length = n := by simp [padz]; omega
theorem ix_padz (n : Nat) (xs : List Int) (i : Nat) : ix (padz n xs) i = ix xs i := by
  unfold ix padz
  simp only [Int.toNat_natCast, List.getD_eq_getElem?_getD]
  by_cases h : i < xs.length
  · rw [List.getElem?_append_left h]
  · rw [List.getElem?_append_right (by omega), List.getElem?_eq_none (l := xs) (by omega), List.getElem?_replicate]
    split <;> rfl
theorem range_ix2 (xs : List Int) : (List.range xs.length).map (fun (i : Nat) => ix xs (i : Int)) = xs := by
  apply List.ext_getElem
  · simp
  · intro i h1 h2
    simp [ix, h2]
theorem zip_ix (n : Nat) (xs ys : List Int) (hx : xs.length ≤ n) (hy : ys.length ≤ n) : (padz n xs).zip (padz n ys) = (List.range n).map fun (i : Nat) => (ix xs i, ix ys i) := by
  apply List.ext_getElem
  · simp [padz_len hx, padz_len hy]
  · intro i h1 h2
    simp at h2
    have e1 := ix_padz n xs i
    have e2 := ix_padz n ys i
    unfold ix at e1 e2
    simp only [Int.toNat_natCast, List.getD_eq_getElem?_getD] at e1 e2
    rw [List.getElem?_eq_getElem (by rw [padz_len hx]; exact h2)] at e1
    rw [List.getElem?_eq_getElem (by rw [padz_len hy]; exact h2)] at e2
    simp at e1 e2
    simp [ix, e1, e2]
theorem zeros25 {n : Nat} {m : Nat} (h : m ≤ n) (hn : n ≤ 1000) : binop .Mult (.list [.int 0]) (.int ((n : Int) - (m : Int))) = pure (.list (List.replicate (n - m) (.int 0))) := by
  rw [binop_mulL (by omega) (by omega)]
  congr 3
  omega
def Sp_mixed (f : List D → M D) : Prop := ∀ a b : List Int, IsDr a → IsDr b → f [tupD a, tupD b] = pure (lisD (mixI a b))
theorem s_mixed {call : Str → List D → M D} {w : Nat} : Sp_mixed (S_mixed call w) := by
  intro a b ha hb
  unfold S_mixed
  rw [runS_2]
  have la := ha.most
  have lb := hb.most
  have hmx : max (a.length : Int) (b.length : Int) = ((max a.length b.length : Nat) : Int) := by omega
  have z1 := zeros25 (n := max a.length b.length) (m := a.length) (by omega) (by omega)
  have z2 := zeros25 (n := max a.length b.length) (m := b.length) (by omega) (by omega)
  have p1 : binop .Add (.list (a.map .int)) (.list (List.replicate (max a.length b.length - a.length) (.int 0))) = pure (.list ((padz (max a.length b.length) a).map .int)) := by
    rw [binop_addL (sl (by simp; omega))]
    simp [padz]
  have p2 : binop .Add (.list (b.map .int)) (.list (List.replicate (max a.length b.length - b.length) (.int 0))) = pure (.list ((padz (max a.length b.length) b).map .int)) := by
    rw [binop_addL (sl (by simp; omega))]
    simp [padz]
  simp [startN, biS, hmx, lstS, sline, z1, z2, p1, p2, iterS, zipD_map, zip_ix _ a b (by omega : a.length ≤ max a.length b.length) (by omega : b.length ≤ max a.length b.length)]
  rw [compS_map (List.range (max a.length b.length)) (fun (i : Nat) => PyData.tuple [.int (ix a i), .int (ix b i)]) (fun (i : Nat) => .int (ix a i * b.sum + ix b i * a.sum)) (by simp [Function.comp_def]) (sl (by simp; omega)) fun i hi => ⟨_, rfl, by
    have h1 : Bt 20 (ix a i) := by
      by_cases h : i < a.length
      · exact ha.bt (ix_mem (by omega) (by omega))
      · have : ix a i = 0 := by unfold ix; rw [List.getD_eq_getElem?_getD, Int.toNat_natCast, List.getElem?_eq_none (by omega)]; rfl
        rw [this]; exact Bt.of_lt (by decide) (by decide)
    have h2 : Bt 20 (ix b i) := by
      by_cases h : i < b.length
      · exact hb.bt (ix_mem (by omega) (by omega))
      · have : ix b i = 0 := by unfold ix; rw [List.getD_eq_getElem?_getD, Int.toNat_natCast, List.getElem?_eq_none (by omega)]; rfl
        rw [this]; exact Bt.of_lt (by decide) (by decide)
    simp [S_mixed_e0, tupD, biS, bmul h1 hb.sumBt, bmul h2 ha.sumBt]⟩]
  simp [mixI, lisD, Function.comp_def]
end Py

set_option Elab.async false
set_option linter.all false
set_option maxRecDepth 100000
namespace Py
open PySem
def mapI (w a : List Int) : List Int := (w.zip a).foldl (fun r p => addAt r (p.1 - 1).toNat p.2) (List.replicate (maxI w).toNat 0)
def IsWay (n : Nat) (w : List Int) : Prop := n ≤ w.length ∧ 1 ≤ w.length ∧ w.length ≤ 30 ∧ (∀ x ∈ w, 1 ≤ x ∧ x ≤ 30) ∧ ∀ k, 1 ≤ k → k < w.length → ix w ((k : Int) - 1) ≤ ix w k
theorem fmax_ge : ∀ (l : List Int) (a : Int), a ≤ l.foldl max a ∧ ∀ x ∈ l, x ≤ l.foldl max a
  | [], a => ⟨Int.le_refl _, fun x h => by cases h⟩
  | y :: l, a => by
    obtain ⟨h1, h2⟩ := fmax_ge l (max a y)
    rw [List.foldl_cons]
    refine ⟨by omega, fun x hx => ?_⟩
    rcases List.mem_cons.mp hx with rfl | hx
    · omega
    · exact h2 x hx
theorem fmax_in : ∀ (l : List Int) (a : Int), l.foldl max a ∈ a :: l
  | [], a => by simp
  | y :: l, a => by
    rw [List.foldl_cons]
    have := fmax_in l (max a y)
    rcases List.mem_cons.mp this with h | h
    · rw [h]
      rcases Int.le_total a y with h' | h'
      · simp [Int.max_eq_right h']
      · simp [Int.max_eq_left h']
    · exact List.mem_cons_of_mem _ (List.mem_cons_of_mem _ h)
theorem maxI_ge {xs : List Int} {x : Int} (h : x ∈ xs) : x ≤ maxI xs := by
  cases xs with
  | nil => cases h
  | cons y ys =>
    obtain ⟨h1, h2⟩ := fmax_ge ys y
    rcases List.mem_cons.mp h with rfl | h
    · exact h1
    · exact h2 x h
theorem maxI_in {xs : List Int} (h : 1 ≤ xs.length) : maxI xs ∈ xs := by
  cases xs with
  | nil => simp at h
  | cons y ys => exact fmax_in ys y
theorem bi_maxT {xs : List Int} (h : 1 ≤ xs.length) : bi "max" [.tuple (xs.map .int)] = pure (.int (maxI xs)) := by
  have hi := intsOf_map xs
  cases xs with
  | nil => simp at h
  | cons y ys => exact (show bi "max" [.tuple ((y :: ys).map .int)] = (match intsOf ((y :: ys).map .int) with
      | some (n :: ns) => pure (.int (maxI (n :: ns)))
      | _ => fail) from rfl).trans (by rw [hi])
def Sp_mapped (f : List D → M D) : Prop := ∀ a v : List Int, IsDr a → IsWay a.length v → f [tupD a, tupD v] = pure (lisD (mapI v a))
theorem s_mapped {call : Str → List D → M D} {w : Nat} : Sp_mapped (S_mapped call w) := by
  intro a v ha hv
  unfold S_mapped
  rw [runS_2]
  obtain ⟨v1, v2, v3, v4, v5⟩ := hv
  have hM := v4 _ (maxI_in v2)
  have hz : binop .Mult (.list [.int 0]) (.int (maxI v)) = pure (lisD (List.replicate (maxI v).toNat 0)) := by
    rw [binop_mulL (by omega) (by omega)]
    simp [lisD]
  obtain ⟨z, e, _⟩ := forL_foldG (enc := fun (p : Int × Int) => PyData.tuple [.int p.1, .int p.2]) (bind := bindG (.many [3, 4])) (b := S_mapped_b0 call w) (fun r p => addAt r (p.1 - 1).toNat p.2)
    (fun r (z : Sl × Sl) => [some (tupD a, false), some (tupD v, false), some (.list (r.map .int), true), z.1, z.2]) (fun r => r.length = (maxI v).toNat) (v.zip a)
    (fun p hp r z hr => by
      have h1 := v4 _ (List.of_mem_zip hp).1
      have h2 := maxI_ge (List.of_mem_zip hp).1
      refine ⟨_, rfl, ⟨(some (.int p.1, false), some (.int p.2, false)), ?_⟩, by simpa using hr⟩
      have key := sAugS_own (σ := [some (tupD a, false), some (tupD v, false), some (.list (r.map .int), true), some (.int p.1, false), some (.int p.2, false)]) (l := 2) (i := (p.1 - 1).toNat) (xs := r) (v := p.2) rfl (by omega)
      rw [show (((p.1 - 1).toNat : Nat) : Int) = p.1 - 1 by omega] at key
      simp at key
      simp [S_mapped_b0, key]) (List.replicate (maxI v).toNat 0) (by simp) (none, none)
  have hb := bi_maxT v2
  simp [tupD, lisD] at e hz
  simp [startN, biS, lstS, sline, tupD, hb, hz, iterS, zipD_map, e, sRetN, ownI, mapI, lisD]
end Py

set_option Elab.async false
set_option linter.all false
set_option maxRecDepth 100000
namespace Py
open PySem
def deeds : List D := [.str "sum", .str "mix", .str "greatest", .str "least", .str "map"]
def oddDeeds : List D := [.none, .str "", .str "Sum", .str "thin", .int 0, .tuple [.str "sum"]]
def Sp_check_deed (f : List D → M D) : Prop := (∀ d ∈ deeds, f [d] = pure .none) ∧ ∀ d ∈ oddDeeds, f [d] = throwX ⟨"Malformed", []⟩
theorem s_check_deed {call : Str → List D → M D} {w : Nat} : Sp_check_deed (S_check_deed call w) := by
  refine ⟨fun d hd => ?_, fun d hd => ?_⟩
  · simp only [deeds, List.mem_cons, List.mem_nil_iff, or_false] at hd
    rcases hd with rfl | rfl | rfl | rfl | rfl <;> kernel_rfl
  · simp only [oddDeeds, List.mem_cons, List.mem_nil_iff, or_false] at hd
    rcases hd with rfl | rfl | rfl | rfl | rfl | rfl <;> kernel_rfl
def inR : D → Bool
  | .int i => decide (1 ≤ i ∧ i ≤ 30)
  | _ => false
def monoI (xs : List Int) : Bool := (List.range (xs.length - 1)).all fun (i : Nat) => decide (ix xs (i : Int) ≤ ix xs ((i : Int) + 1))
theorem inR_ints : ∀ {ds : List D}, ds.all inR = true → ∃ xs : List Int, ds = xs.map .int ∧ ∀ x ∈ xs, 1 ≤ x ∧ x ≤ 30
  | [], _ => ⟨[], rfl, by simp⟩
  | d :: ds, h => by
    rw [List.all_cons, Bool.and_eq_true] at h
    obtain ⟨xs, rfl, hx⟩ := inR_ints h.2
    cases d with
    | int i =>
      refine ⟨i :: xs, rfl, fun x hx' => ?_⟩
      rcases List.mem_cons.mp hx' with rfl | hx'
      · simpa [inR] using h.1
      · exact hx x hx'
    | _ => simp [inR] at h
def wayB (n : Nat) : D → Bool
  | .tuple ds => decide (n ≤ ds.length ∧ ds.length ≤ 30) && (ds.all inR && match intsOf ds with
    | some xs => monoI xs
    | none => false)
  | _ => false
def Sp_is_map (f : List D → M D) : Prop := ∀ (d : D) (n : Nat), nod d = true → 1 ≤ n → n ≤ 30 → f [d, .int (n : Int)] = pure (.bool (wayB n d))
theorem s_is_map {call : Str → List D → M D} {w : Nat} (hc : Sp_is_whole (call "is_whole")) : Sp_is_map (S_is_map call w) := by
  intro d n hd n1 n2
  unfold S_is_map
  rw [runS_2]
  cases d with
  | tuple ds =>
    by_cases hl : n ≤ ds.length ∧ ds.length ≤ 30
    · have i1 : isiS (pure (.tuple ds)) "tuple" = pure (.bool true) := of_eq_true (eq_self _)
      have hds : ∀ x ∈ ds, nod x = true := fun x hx => nods_mem (by simpa using hd) hx
      have l1 : (ds.length : Int) ≤ 30 := by omega
      have l2 : ¬ (30 : Int) < (ds.length : Int) := by omega
      simp [startN, i1, biS, hl.1, l1, l2]
      rw [compS_map ds id (fun x => .bool (inR x)) (by simp) (sl (by omega)) fun x hx => ⟨_, rfl, by
        have := hc x (nod_noD (hds x hx))
        cases x with
        | int i => by_cases h1 : 1 ≤ i <;> simp [S_is_map_e0, callS, this, isWh, inR, h1]
        | dict => have := hds _ hx; simp at this
        | _ => simp [S_is_map_e0, callS, this, isWh, inR]⟩]
      simp only [evsS_pure, evsS_nil, pure_bd, bi_all_map]
      by_cases ha : ds.all inR = true
      · obtain ⟨xs, rfl, hx⟩ := inR_ints ha
        have hlx : (xs.map PyData.int).length = xs.length := by simp
        rw [hlx] at hl
        rw [ha]
        simp [wayB, hl, List.all_map, Function.comp_def, biS, iterS, range2 (a := 1) (b := (xs.length : Int)) (by omega) (by omega) (by omega) (by omega)]
        rw [compS_map (List.range (xs.length - 1)) (fun (i : Nat) => PyData.int (1 + (i : Int))) (fun (i : Nat) => .bool (decide (ix xs (i : Int) ≤ ix xs ((i : Int) + 1)))) (by congr 2) (sl (by simp; omega)) fun i hi => ⟨_, rfl, by
          have hi := List.mem_range.mp hi
          have e1 : getD' (.tuple (xs.map .int)) (.int (i : Int)) = _ := getT_ix (by omega) (by omega)
          have e2 : getD' (.tuple (xs.map .int)) (.int ((i : Int) + 1)) = _ := getT_ix (by omega) (by omega)
          simp [S_is_map_e1, (by omega : 1 + (i : Int) - 1 = (i : Int)), e1, e2, (by omega : 1 + (i : Int) = (i : Int) + 1)]⟩]
        have ha' : (xs.all fun x => inR (.int x)) = true := by simpa only [List.all_map, Function.comp_def] using ha
        simp [monoI, ha']
      · simp [ha, wayB]
    · have i1 : isiS (pure (.tuple ds)) "tuple" = pure (.bool true) := of_eq_true (eq_self _)
      by_cases h1 : n ≤ ds.length
      · have h2 : ¬ ds.length ≤ 30 := fun h => hl ⟨h1, h⟩
        have l2 : (30 : Int) < (ds.length : Int) := by omega
        simp [startN, i1, biS, h1, h2, l2, wayB]
      · simp [startN, i1, biS, h1, wayB]
  | dict => simp at hd
  | none => have i1 : isiS (pure .none) "tuple" = pure (.bool false) := of_eq_true (eq_self _); simp [startN, i1, wayB]
  | bool x => have i1 : isiS (pure (.bool x)) "tuple" = pure (.bool false) := of_eq_true (eq_self _); simp [startN, i1, wayB]
  | int x => have i1 : isiS (pure (.int x)) "tuple" = pure (.bool false) := of_eq_true (eq_self _); simp [startN, i1, wayB]
  | str x => have i1 : isiS (pure (.str x)) "tuple" = pure (.bool false) := of_eq_true (eq_self _); simp [startN, i1, wayB]
  | list x => have i1 : isiS (pure (.list x)) "tuple" = pure (.bool false) := of_eq_true (eq_self _); simp [startN, i1, wayB]
end Py

set_option Elab.async false
set_option linter.all false
set_option maxRecDepth 100000
namespace Py
open PySem
inductive Deed | sum | mix | gr | le | map
def Deed.nm : Deed → Str
  | .sum => "sum" | .mix => "mix" | .gr => "greatest" | .le => "least" | .map => "map"
def Deed.D (d : Deed) : Py.D := .str d.nm
/-- the row that a deed makes -/
def rowI (a b : List Int) : Deed → List Int
  | .sum => evs2 (fun i j => i + j + 1) a b (List.replicate (a.length + b.length) 0)
  | .mix => mixI a b
  | .gr => evs2 (fun i j => max i j) a b (List.replicate (max a.length b.length) 0)
  | .le => evs2 (fun i j => min i j) a b (List.replicate (max a.length b.length) 0)
  | .map => mapI b a
/-- what goes with a deed -/
def OkOther (a : List Int) (b : List Int) : Deed → Prop
  | .map => IsWay a.length b
  | _ => IsDr b
def othB (n : Nat) (d : Py.D) : Deed → Bool
  | .map => wayB n d
  | _ => isDraw d
def Sp_is_other (f : List Py.D → M Py.D) : Prop := ∀ (dd : Deed) (d : Py.D) (n : Nat), nod d = true → 1 ≤ n → n ≤ 30 → f [dd.D, d, .int (n : Int)] = pure (.bool (othB n d dd))
theorem s_is_other {call : Str → List Py.D → M Py.D} {w : Nat} (h1 : Sp_is_map (call "is_map")) (h2 : Sp_is_draw (call "is_draw")) : Sp_is_other (S_is_other call w) := by
  intro dd d n hd n1 n2
  unfold S_is_other
  rw [runS_3]
  have e1 := h1 d n hd n1 n2
  have e2 := h2 d hd
  have q : ∀ x : Deed, eqD x.D (.str "map") = pure (match x with | .map => true | _ => false) := fun x => by cases x <;> kernel_rfl
  cases dd <;> simp [startN, q, callS, e1, e2, othB]
def Sp_done_row (f : List Py.D → M Py.D) : Prop := ∀ (dd : Deed) (a b : List Int), IsDr a → OkOther a b dd → f [dd.D, tupD a, tupD b] = pure (lisD (rowI a b dd))
theorem s_done_row {call : Str → List Py.D → M Py.D} {w : Nat} (h1 : Sp_added (call "added")) (h2 : Sp_mixed (call "mixed")) (h3 : Sp_mapped (call "mapped")) (h4 : Sp_picked (call "picked")) : Sp_done_row (S_done_row call w) := by
  intro dd a b ha hb
  unfold S_done_row
  rw [runS_3]
  have q1 : ∀ x : Deed, eqD x.D (.str "map") = pure (match x with | .map => true | _ => false) := fun x => by cases x <;> kernel_rfl
  have q2 : ∀ x : Deed, eqD x.D (.str "sum") = pure (match x with | .sum => true | _ => false) := fun x => by cases x <;> kernel_rfl
  have q3 : ∀ x : Deed, eqD x.D (.str "mix") = pure (match x with | .mix => true | _ => false) := fun x => by cases x <;> kernel_rfl
  cases dd with
  | sum => simp [startN, q1, q2, q3, callS, h1 a b ha hb, rowI]
  | mix => simp [startN, q1, q2, q3, callS, h2 a b ha hb, rowI]
  | map => simp [startN, q1, q2, q3, callS, h3 a b ha hb, rowI]
  | gr => simp [startN, q1, q2, q3, callS, show call "picked" [tupD a, tupD b, Deed.D .gr] = _ from h4.1 a b ha hb, rowI]
  | le => simp [startN, q1, q2, q3, callS, show call "picked" [tupD a, tupD b, Deed.D .le] = _ from h4.2 a b ha hb, rowI]
end Py

set_option Elab.async false
set_option linter.all false
set_option maxRecDepth 100000
namespace Py
open PySem
theorem gcd_loopN {c : St → M D} {b : St → M Flow} (st : D → D → St) (hc : ∀ i j : Nat, c (st (.int (i : Int)) (.int (j : Int))) = pure (.bool (!decide (j = 0))))
    (hb : ∀ i j : Nat, 0 < j → b (st (.int (i : Int)) (.int (j : Int))) = pure (.nx (st (.int (j : Int)) (.int ((i % j : Nat) : Int))))) : ∀ (n : Nat) (x y : Nat), y < n → sWhile c b n (st (.int (x : Int)) (.int (y : Int))) = pure (.nx (st (.int ((Nat.gcd x y : Nat) : Int)) (.int 0)))
  | 0, x, y, h => absurd h (Nat.not_lt_zero _)
  | n + 1, x, y, h => by
    unfold sWhile whileL
    rw [hc]
    by_cases h0 : y = 0
    · subst h0
      simp
    · have ih := gcd_loopN st hc hb n y (x % y) (by have := Nat.mod_lt x (Nat.pos_of_ne_zero h0); omega)
      have hg : Nat.gcd x y = Nat.gcd y (x % y) := by rw [Nat.gcd_comm x y, Nat.gcd_rec, Nat.gcd_comm]
      simp only [h0, decide_false, Bool.not_false, tstS_bool, stE_pure, if_true]
      rw [hb x y (Nat.pos_of_ne_zero h0), pure_bd, hg]
      unfold sWhile at ih
      exact ih
/-- the greatest common part of a row -/
def gcdL (xs : List Int) : Nat := xs.foldl (fun g x => Nat.gcd g x.toNat) 0
def Sp_lowest_row (f : List D → M D) : Prop := ∀ xs : List Int, (∀ x ∈ xs, 0 ≤ x ∧ Bt 100 x) → xs.length ≤ 1000 → 0 < gcdL xs → Bt 8000 (gcdL xs : Int) → f [lisD xs] = pure (tupD (xs.map fun x => x / (gcdL xs : Int)))
theorem s_lowest_row {call : Str → List D → M D} {w : Nat} (hw : 1 ≤ w) : Sp_lowest_row (S_lowest_row call w) := by
  intro xs hx hl hg hgb
  unfold S_lowest_row
  rw [runS_1]
  obtain ⟨v, e, _⟩ := forL_foldG (enc := PyData.int) (bind := bindG (.one 2)) (b := S_lowest_row_b2 call w) (fun (g : Nat) x => Nat.gcd g x.toNat)
    (fun (g : Nat) (v : Sl × Sl × Sl) => [some (lisD xs, false), some (.int (g : Int), false), v.1, v.2.1, v.2.2]) (fun _ => True) xs
    (fun x hxm g v _ => by
      have h0 := (hx x hxm).1
      have hx2 : ((x.toNat : Nat) : Int) = x := by omega
      refine ⟨_, rfl, ⟨(some (.int x, false), some (.int ((Nat.gcd g x.toNat : Nat) : Int), false), some (.int 0, false)), ?_⟩, trivial⟩
      have hm := msr_int [some (lisD xs, false), some (.int (g : Int), false), some (.int x, false), some (.int (g : Int), false), some (.int x, false)] 4 x false rfl
      have key := gcd_loopN (c := S_lowest_row_c0 call w) (b := S_lowest_row_b1 call w) (fun p q => [some (lisD xs, false), some (.int (g : Int), false), some (.int x, false), some (p, false), some (q, false)])
        (fun i j => by
          rcases Nat.eq_zero_or_pos j with rfl | h
          · simp [S_lowest_row_c0]
          · rw [show decide (j = 0) = false from decide_eq_false (by omega)]
            simp [S_lowest_row_c0, h]) (fun i j hj => by simp [S_lowest_row_b1, binop_mod (by omega : (0 : Int) < (j : Int))]) (w + msr [some (lisD xs, false), some (.int (g : Int), false), some (.int x, false), some (.int (g : Int), false), some (.int x, false)]) g x.toNat (by omega)
      rw [hx2] at key
      simp [S_lowest_row_b2, key]) 0 trivial (none, none, none)
  have hd : dataI (pure (PyData.list (xs.map .int))) = pure (xs.map PyData.int) := of_eq_true (eq_self _)
  rw [show xs.foldl (fun (g : Nat) x => Nat.gcd g x.toNat) 0 = gcdL xs from rfl] at e
  simp [lisD] at e
  simp [startN, lisD, e]
  rw [compS_map xs PyData.int (fun x => .int (x / (gcdL xs : Int))) (by rfl) (sl (by omega)) fun x hxm => ⟨_, rfl, by
    simp [S_lowest_row_e3, bdiv (by omega : (0 : Int) < (gcdL xs : Int)) hgb]⟩]
  simp [biS, tupD, Function.comp_def]
end Py

set_option Elab.async false
set_option linter.all false
set_option maxRecDepth 100000
namespace Py
open PySem
end Py

set_option Elab.async false
set_option linter.all false
set_option maxRecDepth 100000
namespace Py
open PySem
theorem gcdF_dvd : ∀ (xs : List Int) (g : Nat), (xs.foldl (fun g x => Nat.gcd g x.toNat) g) ∣ g ∧ ∀ x ∈ xs, (xs.foldl (fun g x => Nat.gcd g x.toNat) g) ∣ x.toNat
  | [], g => ⟨Nat.dvd_refl _, fun x h => by cases h⟩
  | y :: xs, g => by
    obtain ⟨h1, h2⟩ := gcdF_dvd xs (Nat.gcd g y.toNat)
    rw [List.foldl_cons]
    refine ⟨Nat.dvd_trans h1 (Nat.gcd_dvd_left _ _), fun x hx => ?_⟩
    rcases List.mem_cons.mp hx with rfl | hx
    · exact Nat.dvd_trans h1 (Nat.gcd_dvd_right _ _)
    · exact h2 x hx
theorem gcdL_pos {xs : List Int} (h : ∃ x ∈ xs, 0 < x) : 0 < gcdL xs ∧ ∃ x ∈ xs, (gcdL xs : Int) ≤ x := by
  obtain ⟨x, hx, h0⟩ := h
  have hd := (gcdF_dvd xs 0).2 x hx
  have hp : 0 < x.toNat := by omega
  refine ⟨Nat.pos_of_dvd_of_pos hd hp, x, hx, ?_⟩
  have : gcdL xs ≤ x.toNat := Nat.le_of_dvd hp hd
  omega
end Py

set_option Elab.async false
set_option linter.all false
set_option maxRecDepth 100000
namespace Py
open PySem
def lowI (xs : List Int) : List Int := (strp xs).map fun x => x / (gcdL (strp xs) : Int)
def endD (xs : List Int) : D := if 30 < (strp xs).length then .none else if maxI (lowI xs) ≤ 1000000 then tupD (lowI xs) else .none
end Py

set_option Elab.async false
set_option linter.all false
set_option maxRecDepth 100000
namespace Py
open PySem
def Sp_ended (f : List D → M D) : Prop := ∀ xs : List Int, (∀ x ∈ xs, 0 ≤ x ∧ Bt 100 x) → xs.length ≤ 1000 → (∃ x ∈ xs, 0 < x) → f [lisD xs] = pure (endD xs)
theorem s_ended {call : Str → List D → M D} {w : Nat} (hw : 1 ≤ w) (h1 : Sp_lowest_row (call "lowest_row")) : Sp_ended (S_ended call w) := by
  intro xs hx hl hp
  unfold S_ended
  rw [runS_1]
  obtain ⟨x0, hx0, hx1⟩ := hp
  have hms := mem_strp hx0 (by omega)
  obtain ⟨g1, y, hy, g2⟩ := gcdL_pos (xs := strp xs) ⟨x0, hms, hx1⟩
  obtain ⟨mm, hmm⟩ := strp_pre xs
  have hls : (strp xs).length ≤ xs.length := by
    have := congrArg List.length hmm
    simp at this
    omega
  have hlen : 1 ≤ (strp xs).length := List.length_pos_of_mem hms
  have hm : (xs.map PyData.int).length ≤ msr [some (lisD xs, false), some (.list (xs.map .int), true), none] := msr_list _ 1 _ true rfl
  rw [List.length_map] at hm
  have key := strip_ne (c := S_ended_c0 call w) (b := S_ended_b1 call w) (fun r => [some (lisD xs, false), some (.list (r.map .int), true), none]) (fun ys z => by simp [S_ended_c0]) (fun ys z => by simp [S_ended_b1, sPop0, ownI]) (w + msr [some (lisD xs, false), some (.list (xs.map .int), true), none]) xs (by omega) ⟨x0, hx0, by omega⟩
  have e1 := h1 (strp xs) (fun x h => hx x (strp_mem h)) (by omega) g1 (by
    have := (hx y (strp_mem hy)).2
    unfold Bt at *
    exact Nat.lt_of_le_of_lt (by omega : (gcdL (strp xs) : Int).natAbs ≤ y.natAbs) (Nat.lt_of_lt_of_le this (Nat.pow_le_pow_right (by decide) (by decide))))
  have hb := bi_maxT (xs := lowI xs) (by simp [lowI]; omega)
  simp [lisD] at key e1
  by_cases h30 : 30 < (strp xs).length
  · have l2 : (30 : Int) < ((strp xs).length : Int) := by omega
    simp [startN, biS, lisD, key, l2, endD, h30]
  · have l2 : ¬ (30 : Int) < ((strp xs).length : Int) := by omega
    rw [show tupD ((strp xs).map fun x => x / (gcdL (strp xs) : Int)) = .tuple ((lowI xs).map .int) from rfl] at e1
    simp [startN, biS, lisD, key, l2, endD, h30, callS, e1, hb, tupD]
    split <;> simp
end Py

set_option Elab.async false
set_option linter.all false
set_option maxRecDepth 100000
namespace Py
open PySem
def NN (r : List Int) : Prop := ∀ x ∈ r, 0 ≤ x
theorem addAt_NN {r : List Int} {i : Nat} {v : Int} (h : i < r.length) (hr : NN r) (hv : 0 ≤ v) : NN (addAt r i v) := fun x hx => by
  rcases List.mem_or_eq_of_mem_set hx with hx | rfl
  · exact hr x hx
  · have := hr _ (ix_mem (xs := r) (i := (i : Int)) (by omega) (by omega))
    omega
theorem fold_sum {α : Type} (pl : α → Nat) (g : α → Int) : ∀ (l : List α) (r : List Int), (∀ x ∈ l, pl x < r.length ∧ 0 ≤ g x) → NN r →
    NN (l.foldl (fun r x => addAt r (pl x) (g x)) r) ∧ (l.foldl (fun r x => addAt r (pl x) (g x)) r).sum = r.sum + (l.map g).sum
  | [], r, _, h => ⟨h, by simp⟩
  | x :: l, r, H, h => by
    have hx := H x (List.mem_cons_self ..)
    obtain ⟨h1, h2⟩ := fold_sum pl g l (addAt r (pl x) (g x)) (fun y hy => by rw [addAt_len]; exact H y (List.mem_cons_of_mem _ hy)) (addAt_NN hx.1 h hx.2)
    refine ⟨h1, ?_⟩
    rw [List.foldl_cons, h2, addAt_sum hx.1]
    simp
    omega
theorem sum_mul_left (c : Int) : ∀ (l : List Int), (l.map fun x => c * x).sum = c * l.sum
  | [] => by simp
  | x :: l => by simp [sum_mul_left c l, Int.mul_add]
theorem sum_mul_right (c : Int) : ∀ (l : List Int), (l.map fun x => x * c).sum = l.sum * c
  | [] => by simp
  | x :: l => by simp [sum_mul_right c l, Int.add_mul]
theorem evI_sum (pl : Nat → Nat → Nat) (b : List Int) (ai : Int) (i : Nat) (r : List Int) (hr : NN r) (hb : NN b) (ha : 0 ≤ ai) (h : ∀ j, j < b.length → pl i j < r.length) : NN (evI pl b ai i r) ∧ (evI pl b ai i r).sum = r.sum + ai * b.sum := by
  obtain ⟨h1, h2⟩ := fold_sum (fun j => pl i j) (fun j => ai * ix b j) (List.range b.length) r (fun j hj => by
    have hj := List.mem_range.mp hj
    exact ⟨h j hj, Int.mul_nonneg ha (hb _ (ix_mem (by omega) (by omega)))⟩) hr
  refine ⟨h1, h2.trans ?_⟩
  congr 1
  rw [← sum_mul_left, ← congrArg (fun l => (List.map (fun x => ai * x) l).sum) (range_ix2 b), List.map_map]
  rfl
theorem evs2_sum (pl : Nat → Nat → Nat) (a b r : List Int) (hr : NN r) (ha : NN a) (hb : NN b) (h : ∀ i j, i < a.length → j < b.length → pl i j < r.length) : NN (evs2 pl a b r) ∧ (evs2 pl a b r).sum = r.sum + a.sum * b.sum := by
  have : ∀ (l : List Nat) (r : List Int), NN r → (∀ i ∈ l, 0 ≤ ix a i ∧ ∀ j, j < b.length → pl i j < r.length) → NN (l.foldl (fun r (i : Nat) => evI pl b (ix a i) i r) r) ∧ (l.foldl (fun r (i : Nat) => evI pl b (ix a i) i r) r).sum = r.sum + (l.map fun (i : Nat) => ix a i * b.sum).sum := by
    intro l
    induction l with
    | nil => intro r hr _; exact ⟨hr, by simp⟩
    | cons i l ih =>
      intro r hr H
      have hi := H i (List.mem_cons_self ..)
      obtain ⟨g1, g2⟩ := evI_sum pl b (ix a i) i r hr hb hi.1 hi.2
      obtain ⟨h1, h2⟩ := ih _ g1 fun k hk => by rw [evI_len]; exact H k (List.mem_cons_of_mem _ hk)
      refine ⟨h1, ?_⟩
      rw [List.foldl_cons, h2, g2]
      simp
      omega
  obtain ⟨h1, h2⟩ := this (List.range a.length) r hr fun i hi => by
    have hi := List.mem_range.mp hi
    exact ⟨ha _ (ix_mem (by omega) (by omega)), fun j hj => h i j hi hj⟩
  refine ⟨h1, h2.trans ?_⟩
  congr 1
  rw [← sum_mul_right, ← congrArg (fun l => (List.map (fun x => x * b.sum) l).sum) (range_ix2 a), List.map_map]
  rfl
theorem NN_le_sum : ∀ {r : List Int}, NN r → ∀ x ∈ r, x ≤ r.sum
  | [], _, x, hx => by cases hx
  | y :: r, h, x, hx => by
    have h1 := sum_nn fun z hz => h z (List.mem_cons_of_mem _ hz)
    rw [List.sum_cons]
    rcases List.mem_cons.mp hx with rfl | hx
    · omega
    · have := NN_le_sum (fun z hz => h z (List.mem_cons_of_mem _ hz)) x hx
      have := h y (List.mem_cons_self ..)
      omega
theorem pos_of_sum {r : List Int} (h : 0 < r.sum) : ∃ x ∈ r, 0 < x := by
  induction r with
  | nil => simp at h
  | cons y r ih =>
    by_cases hy : 0 < y
    · exact ⟨y, List.mem_cons_self .., hy⟩
    · obtain ⟨x, hx, h0⟩ := ih (by rw [List.sum_cons] at h; omega)
      exact ⟨x, List.mem_cons_of_mem _ hx, h0⟩
theorem IsDr.nn {xs : List Int} (h : IsDr xs) : NN xs := fun x hx => (h.wt x hx).1
theorem NN_rep (n : Nat) : NN (List.replicate n 0) := fun x hx => by rw [List.eq_of_mem_replicate hx]; decide
theorem sum_rep0 (n : Nat) : (List.replicate n (0 : Int)).sum = 0 := by simp
theorem good_row {r : List Int} {m : Int} (h : NN r) (hs : r.sum = m) (h0 : 0 < m) (hb : Bt 100 m) : (∀ x ∈ r, 0 ≤ x ∧ Bt 100 x) ∧ ∃ x ∈ r, 0 < x := by
  refine ⟨fun x hx => ⟨h x hx, ?_⟩, pos_of_sum (by omega)⟩
  have := NN_le_sum h x hx
  have := h x hx
  unfold Bt at *
  omega
theorem sum_zip_snd : ∀ (v a : List Int), a.length ≤ v.length → ((v.zip a).map fun p => p.2).sum = a.sum
  | [], [], _ => rfl
  | [], x :: a, h => by simp at h
  | y :: v, [], _ => by simp
  | y :: v, x :: a, h => by simp [sum_zip_snd v a (by simpa using h)]
theorem ix_nn {a : List Int} (h : NN a) (k : Nat) : 0 ≤ ix a k := by
  by_cases hk : k < a.length
  · exact h _ (ix_mem (by omega) (by omega))
  · unfold ix
    rw [List.getD_eq_getElem?_getD, Int.toNat_natCast, List.getElem?_eq_none (by omega)]
    decide
theorem ix_le_sum {a : List Int} (h : NN a) (k : Nat) : ix a k ≤ a.sum := by
  by_cases hk : k < a.length
  · exact NN_le_sum h _ (ix_mem (by omega) (by omega))
  · have := sum_nn h
    unfold ix
    rw [List.getD_eq_getElem?_getD, Int.toNat_natCast, List.getElem?_eq_none (by omega)]
    exact this
theorem rowI_pos {a b : List Int} (ha : IsDr a) (dd : Deed) (hb : OkOther a b dd) : (∀ x ∈ rowI a b dd, 0 ≤ x ∧ Bt 100 x) ∧ (rowI a b dd).length ≤ 60 ∧ ∃ x ∈ rowI a b dd, 0 < x := by
  have la := ha.most
  have key : ∀ (pl : Nat → Nat → Nat) (n : Nat), IsDr b → n ≤ 60 → (∀ i j, i < a.length → j < b.length → pl i j < n) → (∀ x ∈ evs2 pl a b (List.replicate n 0), 0 ≤ x ∧ Bt 100 x) ∧ (evs2 pl a b (List.replicate n 0)).length ≤ 60 ∧ ∃ x ∈ evs2 pl a b (List.replicate n 0), 0 < x := by
    intro pl n hb hn h
    obtain ⟨h1, h2⟩ := evs2_sum pl a b (List.replicate n 0) (NN_rep n) ha.nn hb.nn (by simpa using h)
    obtain ⟨g1, g2⟩ := good_row h1 h2 (by rw [sum_rep0]; have := Int.mul_pos ha.sum hb.sum; omega) (by rw [sum_rep0, Int.zero_add]; exact (ha.sumBt.mul hb.sumBt).mono (by decide))
    exact ⟨g1, by rw [evs2_len]; simpa using hn, g2⟩
  cases dd with
  | sum =>
    have hb : IsDr b := hb
    have lb := hb.most
    exact key _ _ hb (by omega) fun i j h1 h2 => by omega
  | gr =>
    have hb : IsDr b := hb
    have lb := hb.most
    exact key _ _ hb (by omega) fun i j h1 h2 => by omega
  | le =>
    have hb : IsDr b := hb
    have lb := hb.most
    exact key _ _ hb (by omega) fun i j h1 h2 => by omega
  | mix =>
    have hb : IsDr b := hb
    have lb := hb.most
    have n1 := ha.nn
    have n2 := hb.nn
    have s1 := ha.sum
    have s2 := hb.sum
    have t1 := ha.sumBt
    have t2 := hb.sumBt
    have hnn : ∀ k : Nat, 0 ≤ ix a k * b.sum ∧ 0 ≤ ix b k * a.sum := fun k => ⟨Int.mul_nonneg (ix_nn n1 k) (by omega), Int.mul_nonneg (ix_nn n2 k) (by omega)⟩
    refine ⟨fun x hx => ?_, by simp [rowI, mixI]; omega, ?_⟩
    · obtain ⟨k, _, rfl⟩ := List.mem_map.mp hx
      have := hnn k
      refine ⟨by omega, ?_⟩
      have b1 : Bt 25 (ix a k) := by have := ix_nn n1 k; have := ix_le_sum n1 k; unfold Bt at *; omega
      have b2 : Bt 25 (ix b k) := by have := ix_nn n2 k; have := ix_le_sum n2 k; unfold Bt at *; omega
      exact ((b1.mul t2).add (b2.mul t1)).mono (by decide)
    · obtain ⟨x, hx, h0⟩ := pos_of_sum s1
      obtain ⟨k, hk, rfl⟩ := List.mem_iff_getElem.mp hx
      refine ⟨ix a k * b.sum + ix b k * a.sum, List.mem_map.mpr ⟨k, List.mem_range.mpr (by omega), rfl⟩, ?_⟩
      have e : ix a k = a[k] := by simp [ix, hk]
      have := hnn k
      have := Int.mul_pos h0 s2
      rw [e] at *
      omega
  | map =>
    obtain ⟨v1, v2, v3, v4, v5⟩ : IsWay a.length b := hb
    have hM := v4 _ (maxI_in v2)
    obtain ⟨h1, h2⟩ := fold_sum (fun p : Int × Int => (p.1 - 1).toNat) (fun p => p.2) (b.zip a) (List.replicate (maxI b).toNat 0) (fun p hp => by
      have h1 := v4 _ (List.of_mem_zip hp).1
      have h2 := maxI_ge (List.of_mem_zip hp).1
      have h3 := ha.nn _ (List.of_mem_zip hp).2
      refine ⟨?_, h3⟩
      simp
      omega) (NN_rep _)
    rw [sum_zip_snd b a v1, sum_rep0, Int.zero_add] at h2
    obtain ⟨g1, g2⟩ := good_row h1 h2 ha.sum (ha.sumBt.mono (by decide))
    refine ⟨g1, ?_, g2⟩
    unfold rowI mapI
    rw [foldl_len _ (fun _ _ => by simp)]
    simp
    omega
end Py

set_option Elab.async false
set_option linter.all false
set_option maxRecDepth 100000
namespace Py
open PySem
def largeX : Exc := ⟨"Refused", [("reason", .str "large")]⟩
def malX : Exc := ⟨"Malformed", []⟩
def isOk : D → Bool
  | .none => false
  | _ => true
def Sp_done (f : List D → M D) : Prop := (∀ (dd : Deed) (a b : List Int), IsDr a → OkOther a b dd → f [dd.D, tupD a, tupD b] = if isOk (endD (rowI a b dd)) = true then pure (endD (rowI a b dd)) else throwX largeX) ∧
  (∀ d ∈ oddDeeds, ∀ x y, f [d, x, y] = throwX malX) ∧
  (∀ (dd : Deed) (x y : D), nod x = true → isDraw x = false → f [dd.D, x, y] = throwX malX) ∧
  ∀ (dd : Deed) (a : List Int) (y : D), IsDr a → nod y = true → othB a.length y dd = false → f [dd.D, tupD a, y] = throwX malX
theorem deed_mem (dd : Deed) : dd.D ∈ deeds := by cases dd <;> simp [Deed.D, Deed.nm, deeds]
theorem isWay_of {n : Nat} {v : List Int} (h : IsWay n v) : wayB n (tupD v) = true := by
  obtain ⟨h1, h2, h3, h4, h5⟩ := h
  have i1 : (v.map PyData.int).all inR = true := by
    rw [List.all_map, List.all_eq_true]
    exact fun x hx => by simpa [inR] using h4 x hx
  have i2 : monoI v = true := by
    unfold monoI
    rw [List.all_eq_true]
    intro k hk
    have hk := List.mem_range.mp hk
    have := h5 (k + 1) (by omega) (by omega)
    simp at this
    simpa using this
  simp only [List.all_map, Function.comp_def] at i1
  simp [wayB, h1, h3, i2]
  simpa using i1
theorem othB_of {a b : List Int} {dd : Deed} (h : OkOther a b dd) : othB a.length (tupD b) dd = true := by
  cases dd with
  | map => exact isWay_of h
  | _ => exact IsDr.is h
theorem endD_cases (xs : List Int) : endD xs = .none ∨ ∃ ys, endD xs = tupD ys := by
  unfold endD
  split
  · exact .inl rfl
  · split
    · exact .inr ⟨_, rfl⟩
    · exact .inl rfl
theorem s_done {call : Str → List D → M D} {w : Nat} (h1 : Sp_check_deed (call "check_deed")) (h2 : Sp_check_draw (call "check_draw")) (h3 : Sp_is_other (call "is_other")) (h4 : Sp_done_row (call "done_row")) (h5 : Sp_ended (call "ended")) : Sp_done (S_done call w) := by
  refine ⟨fun dd a b ha hb => ?_, fun d hd x y => ?_, fun dd x y hx hf => ?_, fun dd a y ha hy hf => ?_⟩ <;> unfold S_done <;> rw [runS_3]
  · have e1 := h1.1 _ (deed_mem dd)
    have e2 := h2 (tupD a) (by simp)
    rw [ha.is, if_pos rfl] at e2
    have e3 := h3 dd (tupD b) a.length (by simp) ha.one ha.most
    rw [othB_of hb] at e3
    have e4 := h4 dd a b ha hb
    obtain ⟨p1, p2, p3⟩ := rowI_pos ha dd hb
    have e5 := h5 _ p1 (by omega) p3
    rcases endD_cases (rowI a b dd) with h | ⟨ys, h⟩
    · rw [h] at e5 ⊢
      simp [startN, callS, e1, e2, biS, e3, e4, e5, sRaiseF, isOk, largeX]
    · rw [h] at e5 ⊢
      simp [startN, callS, e1, e2, biS, e3, e4, e5, isOk, sRetN, ownI, ownDI, rdV]
  · have e1 := h1.2 d hd
    simp [startN, callS, e1, malX]
  · have e1 := h1.1 _ (deed_mem dd)
    have e2 := h2 x hx
    rw [hf] at e2
    simp at e2
    simp [startN, callS, e1, e2, malX]
  · have e1 := h1.1 _ (deed_mem dd)
    have e2 := h2 (tupD a) (by simp)
    rw [ha.is, if_pos rfl] at e2
    have e3 := h3 dd y a.length hy ha.one ha.most
    rw [hf] at e3
    simp [startN, callS, e1, e2, biS, e3, malX]
end Py

set_option Elab.async false
set_option linter.all false
set_option maxRecDepth 100000
namespace Py
open PySem
/-! the law's own row -/
theorem addAt_cons (z : Int) (r : List Int) (i : Nat) (v : Int) : addAt (z :: r) (i + 1) v = z :: addAt r i v := by
  unfold addAt ix
  simp
theorem addAt_app {r : List Int} (zs : List Int) {i : Nat} (h : i < r.length) (v : Int) : addAt (r ++ zs) i v = addAt r i v ++ zs := by
  unfold addAt ix
  rw [List.set_append_left _ _ h]
  simp [List.getElem?_append_left h]
/-- shifted by one and with more behind -/
def up (zs r : List Int) : List Int := 0 :: (r ++ zs)
theorem addAt_up {r : List Int} (zs : List Int) {i : Nat} (h : i < r.length) (v : Int) : addAt (up zs r) (i + 1) v = up zs (addAt r i v) := by
  unfold up
  rw [addAt_cons, addAt_app zs h]
theorem fold_up {α : Type} (zs : List Int) (pl : α → Nat) (g : α → Int) : ∀ (l : List α) (r : List Int), (∀ x ∈ l, pl x < r.length) → l.foldl (fun r x => addAt r (pl x + 1) (g x)) (up zs r) = up zs (l.foldl (fun r x => addAt r (pl x) (g x)) r)
  | [], r, _ => rfl
  | x :: l, r, h => by
    rw [List.foldl_cons, addAt_up zs (h x (List.mem_cons_self ..)), fold_up zs pl g l _ fun y hy => by rw [addAt_len]; exact h y (List.mem_cons_of_mem _ hy)]
    rfl
theorem evI_up (zs : List Int) (pl : Nat → Nat → Nat) (b : List Int) (ai : Int) (i : Nat) (r : List Int) (h : ∀ j, j < b.length → pl i j < r.length) : evI (fun i j => pl i j + 1) b ai i (up zs r) = up zs (evI pl b ai i r) :=
  fold_up zs (fun j => pl i j) (fun j => ai * ix b j) (List.range b.length) r fun j hj => h j (List.mem_range.mp hj)
theorem evs2_up (zs : List Int) (pl : Nat → Nat → Nat) (a b r : List Int) (h : ∀ i j, i < a.length → j < b.length → pl i j < r.length) : evs2 (fun i j => pl i j + 1) a b (up zs r) = up zs (evs2 pl a b r) := by
  unfold evs2
  have : ∀ (l : List Nat) (r : List Int), (∀ i ∈ l, ∀ j, j < b.length → pl i j < r.length) → l.foldl (fun r (i : Nat) => evI (fun i j => pl i j + 1) b (ix a i) i r) (up zs r) = up zs (l.foldl (fun r (i : Nat) => evI pl b (ix a i) i r) r) := by
    intro l
    induction l with
    | nil => intros; rfl
    | cons i l ih =>
      intro r h
      rw [List.foldl_cons, evI_up zs pl b _ i r (h i (List.mem_cons_self ..)), ih _ fun k hk j hj => by rw [evI_len]; exact h k (List.mem_cons_of_mem _ hk) j hj]
      rfl
  exact this _ _ fun i hi j hj => h i j (List.mem_range.mp hi) hj
theorem fold_pt (g : Nat → Int) : ∀ (n : Nat) (r : List Int) (k : Nat), n ≤ r.length → ix ((List.range n).foldl (fun r i => addAt r i (g i)) r) k = ix r k + if k < n then g k else 0
  | 0, r, k, _ => by simp
  | n + 1, r, k, h => by
    rw [List.range_succ, List.foldl_append, List.foldl_cons, List.foldl_nil]
    have ih := fold_pt g n r k (by omega)
    have hl : ((List.range n).foldl (fun r i => addAt r i (g i)) r).length = r.length := foldl_len _ (fun _ _ => by simp) _ _
    rw [ix_addAt (by omega), ih]
    by_cases hk : k = n
    · subst hk
      simp
    · by_cases h2 : k < n
      · rw [if_pos h2, if_neg hk, if_pos (by omega : k < n + 1)]; omega
      · rw [if_neg h2, if_neg hk, if_neg (by omega : ¬ k < n + 1)]; omega
theorem ix_out {xs : List Int} {i : Nat} (h : xs.length ≤ i) : ix xs i = 0 := by
  unfold ix
  rw [List.getD_eq_getElem?_getD, Int.toNat_natCast, List.getElem?_eq_none h]
  rfl
theorem mixI_fold (a b : List Int) : (List.range b.length).foldl (fun r (i : Nat) => addAt r i (ix b i * a.sum)) ((List.range a.length).foldl (fun r (i : Nat) => addAt r i (ix a i * b.sum)) (List.replicate (max a.length b.length) 0)) = mixI a b := by
  have l1 : ((List.range a.length).foldl (fun r (i : Nat) => addAt r i (ix a i * b.sum)) (List.replicate (max a.length b.length) 0)).length = max a.length b.length := by
    rw [foldl_len _ (fun _ _ => by simp)]
    simp
  apply ext_ix
  · rw [foldl_len _ (fun _ _ => by simp), l1]
    simp [mixI]
  · intro k hk
    rw [fold_pt (fun i => ix b i * a.sum) _ _ _ (by omega), fold_pt (fun i => ix a i * b.sum) _ _ _ (by simp; omega)]
    rw [foldl_len _ (fun _ _ => by simp), l1] at hk
    have e1 : ix (List.replicate (max a.length b.length) 0) k = 0 := by
      unfold ix
      rw [List.getD_eq_getElem?_getD, Int.toNat_natCast, List.getElem?_replicate]
      split <;> rfl
    have e2 : ix (mixI a b) k = ix a k * b.sum + ix b k * a.sum := by
      unfold mixI
      rw [ix_map _ _ _ (by simpa using hk)]
      simp
    rw [e1, e2]
    congr 1
    · by_cases h : k < a.length
      · rw [if_pos h]; omega
      · rw [if_neg h, ix_out (by omega)]; omega
    · by_cases h : k < b.length
      · rw [if_pos h]
      · rw [if_neg h, ix_out (by omega)]; omega
end Py

set_option Elab.async false
set_option linter.all false
set_option maxRecDepth 100000
namespace Py
open PySem
def Sp__law_least_row (f : List D → M D) : Prop := ∀ xs : List Int, (∀ x ∈ xs, 0 ≤ x ∧ Bt 100 x) → xs.length ≤ 1000 → (∃ x ∈ xs, 0 < x) → f [lisD xs] = pure (lisD (lowI xs))
theorem s__law_least_row {call : Str → List D → M D} {w : Nat} (hw : 1 ≤ w) : Sp__law_least_row (S__law_least_row call w) := by
  intro xs hx hl hp
  unfold S__law_least_row
  rw [runS_1]
  obtain ⟨x0, hx0, hx1⟩ := hp
  have hms := mem_strp hx0 (by omega)
  obtain ⟨g1, y, hy, g2⟩ := gcdL_pos (xs := strp xs) ⟨x0, hms, hx1⟩
  obtain ⟨mm, hmm⟩ := strp_pre xs
  have hls : (strp xs).length ≤ xs.length := by
    have := congrArg List.length hmm
    simp at this
    omega
  have hgb : Bt 8000 (gcdL (strp xs) : Int) := by
    have := (hx y (strp_mem hy)).2
    unfold Bt at *
    exact Nat.lt_of_le_of_lt (by omega : (gcdL (strp xs) : Int).natAbs ≤ y.natAbs) (Nat.lt_of_lt_of_le this (Nat.pow_le_pow_right (by decide) (by decide)))
  have hm : (xs.map PyData.int).length ≤ msr [some (lisD xs, false), some (.list (xs.map .int), true), none, none, none, none] := msr_list _ 1 _ true rfl
  rw [List.length_map] at hm
  have key := strip_ne (c := S__law_least_row_c0 call w) (b := S__law_least_row_b1 call w) (fun r => [some (lisD xs, false), some (.list (r.map .int), true), none, none, none, none]) (fun ys z => by simp [S__law_least_row_c0]) (fun ys z => by simp [S__law_least_row_b1, sPop0, ownI]) (w + msr [some (lisD xs, false), some (.list (xs.map .int), true), none, none, none, none]) xs (by omega) ⟨x0, hx0, by omega⟩
  simp [lisD] at key
  unfold lowI
  generalize strp xs = ys at *
  obtain ⟨v, e, _⟩ := forL_foldG (enc := PyData.int) (bind := bindG (.one 3)) (b := S__law_least_row_b4 call w) (fun (g : Nat) x => Nat.gcd g x.toNat)
    (fun (g : Nat) (v : Sl × Sl × Sl) => [some (lisD xs, false), some (lisD ys, false), some (.int (g : Int), false), v.1, v.2.1, v.2.2]) (fun _ => True) ys
    (fun x hxm g v _ => by
      have h0 : 0 ≤ x := (hx x (by rw [hmm]; exact List.mem_append_left _ hxm)).1
      have hx2 : ((x.toNat : Nat) : Int) = x := by omega
      refine ⟨_, rfl, ⟨(some (.int x, false), some (.int ((Nat.gcd g x.toNat : Nat) : Int), false), some (.int 0, false)), ?_⟩, trivial⟩
      have hm := msr_int [some (lisD xs, false), some (lisD ys, false), some (.int (g : Int), false), some (.int x, false), some (.int (g : Int), false), some (.int x, false)] 5 x false rfl
      have key := gcd_loopN (c := S__law_least_row_c2 call w) (b := S__law_least_row_b3 call w) (fun p q => [some (lisD xs, false), some (lisD ys, false), some (.int (g : Int), false), some (.int x, false), some (p, false), some (q, false)])
        (fun i j => by simp [S__law_least_row_c2]) (fun i j hj => by simp [S__law_least_row_b3, biS, binop_mod (by omega : (0 : Int) < (j : Int))]) (w + msr [some (lisD xs, false), some (lisD ys, false), some (.int (g : Int), false), some (.int x, false), some (.int (g : Int), false), some (.int x, false)]) g x.toNat (by omega)
      rw [hx2] at key
      simp [S__law_least_row_b4, key]) 0 trivial (none, none, none)
  rw [show ys.foldl (fun (g : Nat) x => Nat.gcd g x.toNat) 0 = gcdL ys from rfl] at e
  simp [lisD] at e
  simp [startN, biS, lisD, key, e]
  rw [compS_map ys PyData.int (fun x => .int (x / (gcdL ys : Int))) (by rfl) (sl (by omega)) fun x hxm => ⟨_, rfl, by
    simp [S__law_least_row_e5, bdiv (by omega : (0 : Int) < (gcdL ys : Int)) hgb]⟩]
  simp [Function.comp_def]
end Py

set_option Elab.async false
set_option linter.all false
set_option maxRecDepth 100000
namespace Py
open PySem
def dnSt (dd : Deed) (a b found : List Int) (v4 v5 v6 v7 v8 : Sl) : St := [some (dd.D, false), some (tupD a, false), some (tupD b, false), some (.list (found.map .int), true), v4, v5, v6, v7, v8]
def pad61 (r : List Int) : List Int := up (List.replicate (60 - r.length) 0) r
theorem pad61_len {r : List Int} (h : r.length ≤ 60) : (pad61 r).length = 61 := by
  simp [pad61, up]
  omega
theorem getL_ixN {xs : List Int} {i : Nat} (h : i < xs.length) : getD' (.list (xs.map .int)) (.int (i : Int)) = pure (.int (ix xs i)) := getL_ix (by omega) (by omega)
theorem getT_ixN {xs : List Int} {i : Nat} (h : i < xs.length) : getD' (.tuple (xs.map .int)) (.int (i : Int)) = pure (.int (ix xs i)) := getT_ix (by omega) (by omega)
section
variable {call : Str → List D → M D} {w : Nat}
theorem dn_map {a v : List Int} (ha : IsDr a) (hv : IsWay a.length v) (found : List Int) (hf : found.length = 61) (v4 v5 v6 v7 v8 : Sl) : ∃ v5', forL (bindG (.one 5)) (S__law_done_b0 call w) ((List.range a.length).map fun (i : Nat) => PyData.int (i : Int)) (dnSt .map a v found v4 v5 v6 v7 v8) =
    pure (.nx (dnSt .map a v ((List.range a.length).foldl (fun r (i : Nat) => addAt r ((ix v i).toNat) (ix a i)) found) v4 v5' v6 v7 v8)) := by
  obtain ⟨v1, v2, v3, v4', _⟩ := hv
  obtain ⟨z, e, _⟩ := forL_foldG (enc := fun (i : Nat) => PyData.int (i : Int)) (bind := bindG (.one 5)) (b := S__law_done_b0 call w) (fun r (i : Nat) => addAt r ((ix v i).toNat) (ix a i))
    (fun r (z : Sl) => dnSt .map a v r v4 z v6 v7 v8) (fun r => r.length = 61) (List.range a.length)
    (fun i hi r z hr => by
      have hi := List.mem_range.mp hi
      refine ⟨_, rfl, ⟨some (.int (i : Int), false), ?_⟩, by simpa using hr⟩
      have hm := v4' _ (ix_mem (xs := v) (i := (i : Int)) (by omega) (by omega))
      have q1 := getT_ixN (xs := v) (i := i) (by omega)
      have q2 := getT_ixN (xs := a) (i := i) hi
      have q3 : getD' (.list (r.map .int)) (.int (ix v i)) = _ := getL_ix (by omega) (by omega)
      have key := sSub_own (σ := dnSt .map a v r v4 (some (.int (i : Int), false)) v6 v7 v8) (l := 3) (i := (ix v i).toNat) (xs := r) (v := ix r (ix v i) + ix a i) rfl (by omega)
      rw [show (((ix v i).toNat : Nat) : Int) = ix v i by omega] at key
      simp [dnSt] at key
      simp [S__law_done_b0, dnSt, q1, q2, q3, key, addAt]
      rw [show max (ix v i) 0 = ix v i by omega]) found hf v5
  exact ⟨z, e⟩
theorem dn_mix1 {a b : List Int} (ha : IsDr a) (hb : IsDr b) (found : List Int) (hf : found.length = 61) (v4 v5 v6 v7 v8 : Sl) : ∃ v5', forL (bindG (.one 5)) (S__law_done_b1 call w) ((List.range a.length).map fun (i : Nat) => PyData.int (i : Int)) (dnSt .mix a b found v4 v5 v6 v7 v8) =
    pure (.nx (dnSt .mix a b ((List.range a.length).foldl (fun r (i : Nat) => addAt r (i + 1) (ix a i * b.sum)) found) v4 v5' v6 v7 v8)) := by
  have la := ha.most
  obtain ⟨z, e, _⟩ := forL_foldG (enc := fun (i : Nat) => PyData.int (i : Int)) (bind := bindG (.one 5)) (b := S__law_done_b1 call w) (fun r (i : Nat) => addAt r (i + 1) (ix a i * b.sum))
    (fun r (z : Sl) => dnSt .mix a b r v4 z v6 v7 v8) (fun r => r.length = 61) (List.range a.length)
    (fun i hi r z hr => by
      have hi := List.mem_range.mp hi
      refine ⟨_, rfl, ⟨some (.int (i : Int), false), ?_⟩, by simpa using hr⟩
      have q2 := getT_ixN (xs := a) (i := i) hi
      have q3 := getL_ixN (xs := r) (i := i + 1) (by omega)
      have hm := bmul (ha.bt (ix_mem (xs := a) (i := (i : Int)) (by omega) (by omega))) hb.sumBt
      have key := sSub_own (σ := dnSt .mix a b r v4 (some (.int (i : Int), false)) v6 v7 v8) (l := 3) (i := i + 1) (xs := r) (v := ix r ((i + 1 : Nat) : Int) + ix a i * b.sum) rfl (by omega)
      simp [dnSt] at key q3
      simp [S__law_done_b1, dnSt, biS, q2, q3, hm, key, addAt]) found hf v5
  exact ⟨z, e⟩
theorem dn_mix2 {a b : List Int} (ha : IsDr a) (hb : IsDr b) (found : List Int) (hf : found.length = 61) (v4 v5 v6 v7 v8 : Sl) : ∃ v5', forL (bindG (.one 5)) (S__law_done_b2 call w) ((List.range b.length).map fun (i : Nat) => PyData.int (i : Int)) (dnSt .mix a b found v4 v5 v6 v7 v8) =
    pure (.nx (dnSt .mix a b ((List.range b.length).foldl (fun r (i : Nat) => addAt r (i + 1) (ix b i * a.sum)) found) v4 v5' v6 v7 v8)) := by
  have la := hb.most
  obtain ⟨z, e, _⟩ := forL_foldG (enc := fun (i : Nat) => PyData.int (i : Int)) (bind := bindG (.one 5)) (b := S__law_done_b2 call w) (fun r (i : Nat) => addAt r (i + 1) (ix b i * a.sum))
    (fun r (z : Sl) => dnSt .mix a b r v4 z v6 v7 v8) (fun r => r.length = 61) (List.range b.length)
    (fun i hi r z hr => by
      have hi := List.mem_range.mp hi
      refine ⟨_, rfl, ⟨some (.int (i : Int), false), ?_⟩, by simpa using hr⟩
      have q2 := getT_ixN (xs := b) (i := i) hi
      have q3 := getL_ixN (xs := r) (i := i + 1) (by omega)
      have hm := bmul (hb.bt (ix_mem (xs := b) (i := (i : Int)) (by omega) (by omega))) ha.sumBt
      have key := sSub_own (σ := dnSt .mix a b r v4 (some (.int (i : Int), false)) v6 v7 v8) (l := 3) (i := i + 1) (xs := r) (v := ix r ((i + 1 : Nat) : Int) + ix b i * a.sum) rfl (by omega)
      simp [dnSt] at key q3
      simp [S__law_done_b2, dnSt, biS, q2, q3, hm, key, addAt]) found hf v5
  exact ⟨z, e⟩
theorem dn_two (dd : Deed) (pl : Nat → Nat → Nat) (hpl : ∀ i j, i < 30 → j < 30 → pl i j < 60)
    (hd : ∀ i j : Nat, (ifeS (do let c ← eqD dd.D (.str "sum"); pure (.bool c)) (pure (.int (1 + (i : Int) + (1 + (j : Int))))) (ifeS (do let c ← eqD dd.D (.str "greatest"); pure (.bool c)) (pure (.int (max (1 + (i : Int)) (1 + (j : Int))))) (pure (.int (min (1 + (i : Int)) (1 + (j : Int)))))) : M D) = pure (.int ((pl i j + 1 : Nat) : Int))) {a b : List Int} (ha : IsDr a) (hb : IsDr b) (found : List Int) (hf : found.length = 61) (v4 v5 v6 v7 v8 : Sl) :
    ∃ v6' v7' v8', forL (bindG (.one 6)) (S__law_done_b4 call w) ((List.range a.length).map fun (i : Nat) => PyData.int (1 + (i : Int))) (dnSt dd a b found v4 v5 v6 v7 v8) =
    pure (.nx (dnSt dd a b (evs2 (fun i j => pl i j + 1) a b found) v4 v5 v6' v7' v8')) := by
  have la := ha.most
  have lb := hb.most
  obtain ⟨z, e, _⟩ := forL_foldG (enc := fun (i : Nat) => PyData.int (1 + (i : Int))) (bind := bindG (.one 6)) (b := S__law_done_b4 call w) (fun r (i : Nat) => evI (fun i j => pl i j + 1) b (ix a i) i r)
    (fun r (z : Sl × Sl × Sl) => dnSt dd a b r v4 v5 z.1 z.2.1 z.2.2) (fun r => r.length = 61) (List.range a.length)
    (fun i hi r z hr => by
      have hi := List.mem_range.mp hi
      obtain ⟨y, e, _⟩ := forL_foldG (enc := fun (j : Nat) => PyData.int (1 + (j : Int))) (bind := bindG (.one 7)) (b := S__law_done_b3 call w) (fun r (j : Nat) => addAt r (pl i j + 1) (ix a i * ix b j))
        (fun r (y : Sl × Sl) => dnSt dd a b r v4 v5 (some (.int (1 + (i : Int)), false)) y.1 y.2) (fun r => r.length = 61) (List.range b.length)
        (fun j hj r y hr => by
          have hj := List.mem_range.mp hj
          refine ⟨_, rfl, ⟨(some (.int (1 + (j : Int)), false), some (.int ((pl i j + 1 : Nat) : Int), false)), ?_⟩, by simpa using hr⟩
          have hp := hpl i j (by omega) (by omega)
          have q1 := getT_ixN (xs := a) (i := i) hi
          have q2 := getT_ixN (xs := b) (i := j) hj
          have q3 := getL_ixN (xs := r) (i := pl i j + 1) (by omega)
          have hm := bmul (ha.bt (ix_mem (xs := a) (i := (i : Int)) (by omega) (by omega))) (hb.bt (ix_mem (xs := b) (i := (j : Int)) (by omega) (by omega)))
          have hdd := hd i j
          have key := sSub_own (σ := dnSt dd a b r v4 v5 (some (.int (1 + (i : Int)), false)) (some (.int (1 + (j : Int)), false)) (some (.int ((pl i j + 1 : Nat) : Int), false))) (l := 3) (i := pl i j + 1) (xs := r) (v := ix r ((pl i j + 1 : Nat) : Int) + ix a i * ix b j) rfl (by omega)
          have c1 : 1 + (i : Int) - 1 = (i : Int) := by omega
          have c2 : 1 + (j : Int) - 1 = (j : Int) := by omega
          simp [dnSt] at key q3
          simp at hdd
          simp [S__law_done_b3, dnSt, biS, hdd, c1, c2, q1, q2, q3, hm, key, addAt]) r hr (z.2.1, z.2.2)
      refine ⟨_, rfl, ⟨(some (.int (1 + (i : Int)), false), y.1, y.2), ?_⟩, by rw [evI_len]; exact hr⟩
      have hr2 := range2 (a := 1) (b := (b.length : Int) + 1) (by omega) (by omega) (by omega) (by omega)
      rw [show ((b.length : Int) + 1 - 1).toNat = b.length by omega] at hr2
      simp [dnSt] at e
      simp [S__law_done_b4, dnSt, biS, iterS, hr2, e, evI]) found hf (v6, v7, v8)
  exact ⟨z.1, z.2.1, z.2.2, e⟩
end
end Py

set_option Elab.async false
set_option linter.all false
set_option maxRecDepth 100000
namespace Py
open PySem
theorem bi_maxL {xs : List Int} (h : 1 ≤ xs.length) : bi "max" [.list (xs.map .int)] = pure (.int (maxI xs)) := by
  have hi := intsOf_map xs
  cases xs with
  | nil => simp at h
  | cons y ys => exact (show bi "max" [.list ((y :: ys).map .int)] = (match intsOf ((y :: ys).map .int) with
      | some (n :: ns) => pure (.int (maxI (n :: ns)))
      | _ => fail) from rfl).trans (by rw [hi])
theorem fadd_len {α : Type} (pl : α → Nat) (g : α → Int) (l : List α) (r : List Int) : (l.foldl (fun r x => addAt r (pl x) (g x)) r).length = r.length := foldl_len _ (fun _ _ => addAt_len ..) _ _
theorem zip_range (v a : List Int) (h : a.length ≤ v.length) : v.zip a = (List.range a.length).map fun (i : Nat) => (ix v i, ix a i) := by
  apply List.ext_getElem
  · simp
    omega
  · intro i h1 h2
    simp at h2
    simp [ix, h2, (by omega : i < v.length)]
theorem zeros61 (n : Nat) (h : n ≤ 60) : List.replicate 61 (0 : Int) = up (List.replicate (60 - n) 0) (List.replicate n 0) := by
  unfold up
  rw [List.replicate_append_replicate, ← List.replicate_succ]
  congr 1
  omega
/-- what lies behind the first place ends in the row's draw -/
theorem lowI_pad (r : List Int) (m : Nat) : lowI (r ++ List.replicate m 0) = lowI r := by
  unfold lowI
  rw [strp_rep]
theorem fold_congr {α β : Type} {f g : β → α → β} : ∀ (l : List α) (r : β), (∀ r, ∀ x ∈ l, f r x = g r x) → l.foldl f r = l.foldl g r
  | [], r, _ => rfl
  | x :: l, r, h => by
    rw [List.foldl_cons, List.foldl_cons, h r x (List.mem_cons_self ..), fold_congr l _ fun r y hy => h r y (List.mem_cons_of_mem _ hy)]
theorem map_row {a v : List Int} (hv : IsWay a.length v) : (List.range a.length).foldl (fun r (i : Nat) => addAt r ((ix v i).toNat) (ix a i)) (List.replicate 61 0) = pad61 (mapI v a) := by
  obtain ⟨v1, v2, v3, v4, _⟩ := hv
  have hM := v4 _ (maxI_in v2)
  have hlen : (mapI v a).length = (maxI v).toNat := by
    unfold mapI
    rw [foldl_len _ (fun _ _ => by simp)]
    simp
  have hpos : ∀ i ∈ List.range a.length, 1 ≤ ix v i ∧ ix v i ≤ maxI v := fun i hi => by
    have hi := List.mem_range.mp hi
    have hm := ix_mem (xs := v) (i := (i : Int)) (by omega) (by omega)
    exact ⟨(v4 _ hm).1, maxI_ge hm⟩
  have e0 : ∀ r, (List.range a.length).foldl (fun r (i : Nat) => addAt r ((ix v i).toNat) (ix a i)) r = (List.range a.length).foldl (fun r (i : Nat) => addAt r ((ix v i - 1).toNat + 1) (ix a i)) r := fun r => fold_congr _ r fun r i hi => by
    have := hpos i hi
    congr 1
    omega
  rw [e0, zeros61 (maxI v).toNat (by omega), fold_up _ (fun (i : Nat) => (ix v i - 1).toNat) _ _ _ fun i hi => by
    have := hpos i hi
    simp
    omega]
  unfold pad61
  rw [hlen]
  congr 1
  unfold mapI
  rw [zip_range v a v1, List.foldl_map]
theorem mix_row {a b : List Int} (ha : IsDr a) (hb : IsDr b) : (List.range b.length).foldl (fun r (i : Nat) => addAt r (i + 1) (ix b i * a.sum)) ((List.range a.length).foldl (fun r (i : Nat) => addAt r (i + 1) (ix a i * b.sum)) (List.replicate 61 0)) = pad61 (mixI a b) := by
  have la := ha.most
  have lb := hb.most
  have hlen : (mixI a b).length = max a.length b.length := by simp [mixI]
  rw [zeros61 (max a.length b.length) (by omega), fold_up _ (fun i => i) _ _ _ fun i hi => by
      have := List.mem_range.mp hi
      simp
      omega, fold_up _ (fun i => i) _ _ _ fun i hi => by
      have := List.mem_range.mp hi
      rw [foldl_len _ (fun _ _ => by simp)]
      simp
      omega, mixI_fold]
  unfold pad61
  rw [hlen]
theorem two_row (pl : Nat → Nat → Nat) (n : Nat) (hn : n ≤ 60) {a b : List Int} (h : ∀ i j, i < a.length → j < b.length → pl i j < n) : evs2 (fun i j => pl i j + 1) a b (List.replicate 61 0) = pad61 (evs2 pl a b (List.replicate n 0)) := by
  have hlen : (evs2 pl a b (List.replicate n 0)).length = n := by rw [evs2_len]; simp
  rw [zeros61 n hn, evs2_up _ _ _ _ _ (by simpa using h)]
  unfold pad61
  rw [hlen]
def Sp__law_done (f : List D → M D) : Prop := ∀ (dd : Deed) (a b : List Int), IsDr a → OkOther a b dd → f [dd.D, tupD a, tupD b] = pure (endD (rowI a b dd))
theorem ld_end {call : Str → List D → M D} {w : Nat} (hl : Sp__law_least_row (call "_law_least_row")) {dd : Deed} {a b : List Int} (ha : IsDr a) (hb : OkOther a b dd) (v5 v6 v7 v8 : Sl) :
    S__law_done_k6 call w (dnSt dd a b (pad61 (rowI a b dd)) none v5 v6 v7 v8) = pure (.ret (endD (rowI a b dd)) false) := by
  obtain ⟨p1, p2, p3⟩ := rowI_pos ha dd hb
  have e := hl (rowI a b dd ++ List.replicate (60 - (rowI a b dd).length) 0) (fun x hx => by
    rcases List.mem_append.mp hx with h | h
    · exact p1 x h
    · rw [List.eq_of_mem_replicate h]; exact ⟨by decide, Bt.of_lt (by decide) (by decide)⟩) (by simp; omega) (by
    obtain ⟨x, hx, h0⟩ := p3
    exact ⟨x, List.mem_append_left _ hx, h0⟩)
  rw [lowI_pad] at e
  have hc : cut ((pad61 (rowI a b dd)).map PyData.int) (some 1) none = (rowI a b dd ++ List.replicate (60 - (rowI a b dd).length) 0).map .int := by
    rw [cut_from _ (by decide)]
    simp [pad61, up]
  have hlow : 1 ≤ (lowI (rowI a b dd)).length := by
    obtain ⟨x, hx, h0⟩ := p3
    have := List.length_pos_of_mem (mem_strp hx (by omega))
    simp [lowI]
    omega
  have hml := bi_maxL hlow
  have hl2 : (lowI (rowI a b dd)).length = (strp (rowI a b dd)).length := by simp [lowI]
  unfold endD
  generalize rowI a b dd ++ List.replicate (60 - (rowI a b dd).length) 0 = xs at *
  generalize pad61 (rowI a b dd) = ps at *
  generalize lowI (rowI a b dd) = ls at *
  rw [← hl2]
  by_cases h30 : 30 < ls.length
  · have l2 : ¬ (ls.length : Int) ≤ 30 := by omega
    simp [S__law_done_k6, S__law_done_k5, dnSt, hc, callS, e, biS, h30, l2]
  · have l2 : (ls.length : Int) ≤ 30 := by omega
    by_cases hmx : maxI ls ≤ 1000000
    · simp [S__law_done_k6, S__law_done_k5, dnSt, hc, callS, e, biS, h30, l2, hml, hmx]
    · simp [S__law_done_k6, S__law_done_k5, dnSt, hc, callS, e, biS, h30, l2, hml, hmx]
theorem s__law_done {call : Str → List D → M D} {w : Nat} (hl : Sp__law_least_row (call "_law_least_row")) : Sp__law_done (S__law_done call w) := by
  intro dd a b ha hb
  unfold S__law_done
  rw [runS_3]
  have la := ha.most
  have q1 : ∀ x : Deed, eqD x.D (.str "map") = pure (match x with | .map => true | _ => false) := fun x => by cases x <;> kernel_rfl
  have q2 : ∀ x : Deed, eqD x.D (.str "sum") = pure (match x with | .sum => true | _ => false) := fun x => by cases x <;> kernel_rfl
  have q3 : ∀ x : Deed, eqD x.D (.str "mix") = pure (match x with | .mix => true | _ => false) := fun x => by cases x <;> kernel_rfl
  have q4 : ∀ x : Deed, eqD x.D (.str "greatest") = pure (match x with | .gr => true | _ => false) := fun x => by cases x <;> kernel_rfl
  have hz : binop .Mult (.list [.int 0]) (.int 61) = pure (.list ((List.replicate 61 0).map .int)) := by
    rw [binop_mulL (by decide) (by decide)]
    rfl
  have ra := rangeN (n := a.length) (by omega)
  have ra1 := range2 (a := 1) (b := (a.length : Int) + 1) (by omega) (by omega) (by omega) (by omega)
  rw [show ((a.length : Int) + 1 - 1).toNat = a.length by omega] at ra1
  have l61 : (List.replicate 61 (0 : Int)).length = 61 := by simp
  have two : ∀ (pl : Nat → Nat → Nat) (n : Nat), IsDr b → n ≤ 60 → (∀ i j, i < 30 → j < 30 → pl i j < 60) → (∀ i j, i < a.length → j < b.length → pl i j < n) → rowI a b dd = evs2 pl a b (List.replicate n 0) → eqD dd.D (.str "map") = pure false → eqD dd.D (.str "mix") = pure false →
      (∀ i j : Nat, (ifeS (do let c ← eqD dd.D (.str "sum"); pure (.bool c)) (pure (.int (1 + (i : Int) + (1 + (j : Int))))) (ifeS (do let c ← eqD dd.D (.str "greatest"); pure (.bool c)) (pure (.int (max (1 + (i : Int)) (1 + (j : Int))))) (pure (.int (min (1 + (i : Int)) (1 + (j : Int)))))) : M D) = pure (.int ((pl i j + 1 : Nat) : Int))) →
      S__law_done_k7 call w (dnSt dd a b (List.replicate 61 0) none none none none none) = pure (.ret (endD (rowI a b dd)) false) := by
    clear q1 q2 q3 q4
    intro pl n hbd hn hpl hpl2 hrow m1 m2 hd
    obtain ⟨x6, x7, x8, e⟩ := dn_two (call := call) (w := w) dd pl hpl hd ha hbd (List.replicate 61 0) l61 none none none none none
    rw [two_row pl n hn hpl2, ← hrow] at e
    have ed := ld_end (w := w) hl ha hb none x6 x7 x8
    generalize List.replicate 61 (0 : Int) = z61 at *
    generalize pad61 (rowI a b dd) = ps at *
    simp only [dnSt, tupD, bindG_one] at e ed ⊢
    simp [S__law_done_k7, m1, m2, biS, iterS, ra1, e, ed]
  have k7 : S__law_done_k7 call w (dnSt dd a b (List.replicate 61 0) none none none none none) = pure (.ret (endD (rowI a b dd)) false) := by
    cases dd with
    | sum =>
      have hbd : IsDr b := hb
      have lb := hbd.most
      exact two (fun i j => i + j + 1) (a.length + b.length) hbd (by omega) (fun i j h1 h2 => by omega) (fun i j h1 h2 => by omega) rfl (q1 .sum) (q3 .sum) fun i j => by
        rw [show ((i + j + 1 + 1 : Nat) : Int) = 1 + (i : Int) + (1 + (j : Int)) by omega]
        simp [q2 .sum]
    | gr =>
      have hbd : IsDr b := hb
      have lb := hbd.most
      exact two (fun i j => max i j) (max a.length b.length) hbd (by omega) (fun i j h1 h2 => by omega) (fun i j h1 h2 => by omega) rfl (q1 .gr) (q3 .gr) fun i j => by
        rw [show ((max i j + 1 : Nat) : Int) = max (1 + (i : Int)) (1 + (j : Int)) by omega]
        simp [q2 .gr, q4 .gr]
    | le =>
      have hbd : IsDr b := hb
      have lb := hbd.most
      exact two (fun i j => min i j) (max a.length b.length) hbd (by omega) (fun i j h1 h2 => by omega) (fun i j h1 h2 => by omega) rfl (q1 .le) (q3 .le) fun i j => by
        rw [show ((min i j + 1 : Nat) : Int) = min (1 + (i : Int)) (1 + (j : Int)) by omega]
        simp [q2 .le, q4 .le]
    | mix =>
      have hbd : IsDr b := hb
      have lb := hbd.most
      have rb := rangeN (n := b.length) (by omega)
      obtain ⟨x5, e1⟩ := dn_mix1 (call := call) (w := w) ha hbd (List.replicate 61 0) l61 none none none none none
      obtain ⟨y5, e2⟩ := dn_mix2 (call := call) (w := w) ha hbd _ ((fadd_len (fun i => i + 1) (fun (i : Nat) => ix a i * b.sum) _ _).trans l61) none x5 none none none
      rw [mix_row ha hbd] at e2
      have ed := ld_end (w := w) hl ha hb y5 none none none
      rw [show rowI a b .mix = mixI a b from rfl] at ed ⊢
      generalize (List.range a.length).foldl (fun r (i : Nat) => addAt r (i + 1) (ix a i * b.sum)) (List.replicate 61 0) = r1 at *
      generalize List.replicate 61 (0 : Int) = z61 at *
      generalize pad61 (mixI a b) = ps at *
      simp only [dnSt, tupD, bindG_one] at e1 e2 ed ⊢
      simp [S__law_done_k7, q1 .mix, q3 .mix, biS, iterS, ra, rb, e1, e2, ed]
    | map =>
      have hv : IsWay a.length b := hb
      obtain ⟨x5, e1⟩ := dn_map (call := call) (w := w) ha hv (List.replicate 61 0) l61 none none none none none
      rw [map_row hv] at e1
      have ed := ld_end (w := w) hl ha hb x5 none none none
      rw [show rowI a b .map = mapI b a from rfl] at ed ⊢
      generalize List.replicate 61 (0 : Int) = z61 at *
      generalize pad61 (mapI b a) = ps at *
      simp only [dnSt, tupD, bindG_one] at e1 ed ⊢
      simp [S__law_done_k7, q1 .map, biS, iterS, ra, e1, ed]
  simp only [dnSt, tupD] at k7
  generalize List.replicate 61 (0 : Int) = z61 at *
  simp [startN, lstS, sline, hz, tupD, k7]
end Py

set_option Elab.async false
set_option linter.all false
set_option maxRecDepth 100000
namespace Py
open PySem
/-! two rows and a kernel -/
def PFz (f : Int → Int) : Prop := ∀ p q : Int, p < q → f q * f (p - 1) ≤ f p * f (q - 1)
theorem cancelZ {x y c : Int} (h : x * c ≤ y * c) (hc : 0 < c) : x ≤ y := Int.le_of_mul_le_mul_right h hc
theorem pfz_between {f : Int → Int} (hn : ∀ m, 0 ≤ f m) (h : PFz f) : ∀ (d : Nat) (p : Int), 0 < f p → 0 < f (p + d) → ∀ e : Nat, e ≤ d → 0 < f (p + e) := by
  intro d
  induction d with
  | zero => intro p h1 _ e he; rw [show p + (e : Int) = p by omega]; exact h1
  | succ d ih =>
    intro p h1 h2 e he
    by_cases e0 : e = 0
    · subst e0; rw [show p + ((0 : Nat) : Int) = p by omega]; exact h1
    · have h3 : 0 < f (p + 1) := by
        by_cases d0 : d = 0
        · subst d0; exact h2
        · have hh := h (p + 1) (p + ((d + 1 : Nat) : Int)) (by omega)
          rw [show p + 1 - 1 = p by omega] at hh
          have p1 := Int.mul_pos h2 h1
          have n1 := hn (p + 1)
          rcases Int.lt_or_le 0 (f (p + 1)) with c | c
          · exact c
          · have : f (p + 1) = 0 := by omega
            rw [this, Int.zero_mul] at hh
            omega
      have := ih (p + 1) h3 (by rw [show p + 1 + (d : Int) = p + ((d + 1 : Nat) : Int) by omega]; exact h2) (e - 1) (by omega)
      rw [show p + 1 + ((e - 1 : Nat) : Int) = p + (e : Int) by omega] at this
      exact this
/-- f(p) f(q + d) ≤ f(p + d) f(q) -/
theorem pfz_key {f : Int → Int} (hn : ∀ m, 0 ≤ f m) (h : PFz f) : ∀ (d : Nat) (p q : Int), p ≤ q → f p * f (q + d) ≤ f (p + d) * f q := by
  intro d
  induction d with
  | zero => intro p q _; rw [show q + ((0 : Nat) : Int) = q by omega, show p + ((0 : Nat) : Int) = p by omega]; exact Int.le_refl _
  | succ d ih =>
    intro p q hpq
    have n0 := hn p
    have n1 := hn (q + ((d + 1 : Nat) : Int))
    have n2 := hn (p + ((d + 1 : Nat) : Int))
    have n3 := hn q
    by_cases hz : f p = 0 ∨ f (q + ((d + 1 : Nat) : Int)) = 0
    · have z : f p * f (q + ((d + 1 : Nat) : Int)) = 0 := by
        rcases hz with z | z <;> rw [z] <;> simp
      rw [z]
      exact Int.mul_nonneg n2 n3
    · by_cases e : p = q
      · subst e
        rw [Int.mul_comm]
        exact Int.le_refl _
      have z1 : 0 < f p := by omega
      have z2 : 0 < f (q + ((d + 1 : Nat) : Int)) := by omega
      have bt := pfz_between hn h (q + ((d + 1 : Nat) : Int) - p).toNat p z1 (by rw [show p + (((q + ((d + 1 : Nat) : Int) - p).toNat : Nat) : Int) = q + ((d + 1 : Nat) : Int) by omega]; exact z2)
      have b1 := bt d (by omega)
      have b2 := bt (q + (d : Int) - p).toNat (by omega)
      rw [show p + (((q + (d : Int) - p).toNat : Nat) : Int) = q + (d : Int) by omega] at b2
      have i1 := ih p q hpq
      have i2 := h (p + (d : Int) + 1) (q + (d : Int) + 1) (by omega)
      rw [show p + (d : Int) + 1 - 1 = p + (d : Int) by omega, show q + (d : Int) + 1 - 1 = q + (d : Int) by omega] at i2
      rw [show q + ((d + 1 : Nat) : Int) = q + (d : Int) + 1 by omega] at *
      rw [show p + ((d + 1 : Nat) : Int) = p + (d : Int) + 1 by omega] at *
      refine cancelZ (c := f (p + (d : Int)) * f (q + (d : Int))) ?_ (Int.mul_pos b1 b2)
      have q1 := Int.mul_le_mul_of_nonneg_right i1 (Int.le_of_lt (Int.mul_pos b1 z2))
      have q2 := Int.mul_le_mul_of_nonneg_right i2 (Int.mul_nonneg (Int.le_of_lt b1) n3)
      generalize f (p + (d : Int)) = u at *
      generalize f (q + (d : Int)) = v at *
      generalize f (p + (d : Int) + 1) = u' at *
      generalize f (q + (d : Int) + 1) = v' at *
      generalize f p = s at *
      generalize f q = t at *
      grind
/-- the bracket of the kernel -/
def brZ (f : Int → Int) (i k a b : Int) : Int := f (i - a) * f (k - b) - f (k - a) * f (i - b)
theorem brZ_nn {f : Int → Int} (hn : ∀ m, 0 ≤ f m) (h : PFz f) {i k a b : Int} (hik : i ≤ k) (hab : a ≤ b) : 0 ≤ brZ f i k a b := by
  unfold brZ
  have := pfz_key hn h (k - i).toNat (i - b) (i - a) (by omega)
  rw [show i - a + (((k - i).toNat : Nat) : Int) = k - a by omega, show i - b + (((k - i).toNat : Nat) : Int) = k - b by omega] at this
  rw [Int.mul_comm (f (k - b)), Int.mul_comm (f (i - b))] at this
  omega
theorem brZ_anti (f : Int → Int) (i k a b : Int) : brZ f i k b a = - brZ f i k a b := by
  unfold brZ
  grind
/-- what comes out behind the kernel -/
def Fz (N : Nat) (x : Nat → Int) (f : Int → Int) (n : Int) : Int := sumR N fun a => x a * f (n - (a : Int))
theorem det_sum (N : Nat) (x y : Nat → Int) (f : Int → Int) (i k : Int) : Fz N x f i * Fz N y f k - Fz N x f k * Fz N y f i = sumR N fun a => sumR N fun b => x a * y b * brZ f i k (a : Int) (b : Int) := by
  unfold Fz
  have pr : ∀ (u v : Nat → Int), sumR N u * sumR N v = sumR N fun a => sumR N fun b => u a * v b := fun u v => by
    rw [Int.mul_comm, ← sumR_mul]
    refine sumR_congr fun a _ => ?_
    rw [Int.mul_comm, ← sumR_mul]
  rw [pr, pr, ← sumR_sub]
  refine sumR_congr fun a _ => ?_
  rw [← sumR_sub]
  refine sumR_congr fun b _ => ?_
  unfold brZ
  grind
theorem sumR_nnD {n : Nat} {f : Nat → Int} (h : ∀ i, i < n → 0 ≤ f i) : 0 ≤ sumR n f := by
  induction n with
  | zero => simp
  | succ n ih =>
    rw [sumR_back]
    have := ih fun i hi => h i (by omega)
    have := h n (by omega)
    omega
/-- twice a double sum, folded -/
theorem fold_sum2 (N : Nat) (T : Nat → Nat → Int) : 2 * (sumR N fun a => sumR N fun b => T a b) = sumR N fun a => sumR N fun b => T a b + T b a := by
  have h := sumR_swap N N T
  have e : (sumR N fun a => sumR N fun b => T a b + T b a) = (sumR N fun a => sumR N fun b => T a b) + sumR N fun a => sumR N fun b => T b a := by
    rw [← sumR_add]
    refine sumR_congr fun a _ => ?_
    rw [sumR_add]
  rw [e, ← h]
  omega
theorem lr_conv {N : Nat} {x y : Nat → Int} {f : Int → Int} (hn : ∀ m, 0 ≤ f m) (h : PFz f) (hxy : ∀ a b : Nat, a < b → x b * y a ≤ x a * y b) {i k : Int} (hik : i < k) : Fz N x f k * Fz N y f i ≤ Fz N x f i * Fz N y f k := by
  have d := det_sum N x y f i k
  have d2 := fold_sum2 N fun a b => x a * y b * brZ f i k (a : Int) (b : Int)
  have nn : 0 ≤ sumR N fun a => sumR N fun b => x a * y b * brZ f i k (a : Int) (b : Int) + x b * y a * brZ f i k (b : Int) (a : Int) := by
    refine sumR_nnD fun a _ => sumR_nnD fun b _ => ?_
    rw [brZ_anti f i k (a : Int) (b : Int)]
    have e : x a * y b * brZ f i k (a : Int) (b : Int) + x b * y a * - brZ f i k (a : Int) (b : Int) = (x a * y b - x b * y a) * brZ f i k (a : Int) (b : Int) := by grind
    rw [e]
    rcases Nat.lt_trichotomy a b with c | c | c
    · have := hxy a b c
      exact Int.mul_nonneg (by omega) (brZ_nn hn h (by omega) (by omega))
    · subst c
      have : brZ f i k (a : Int) (a : Int) = 0 := by unfold brZ; grind
      rw [this, Int.mul_zero]
      exact Int.le_refl _
    · have h1 := hxy b a c
      have h2 := brZ_nn hn h (i := i) (k := k) (a := (b : Int)) (b := (a : Int)) (by omega) (by omega)
      rw [brZ_anti f i k (a : Int) (b : Int)] at h2
      have := Int.mul_nonneg (show 0 ≤ x b * y a - x a * y b by omega) h2
      grind
  omega
/-! the tails -/
def tlZ (N : Nat) (x : Nat → Int) (a : Nat) : Int := sumR (N - a) fun i => x (a + i)
theorem tlZ_succ {N : Nat} {x : Nat → Int} {a : Nat} (h : a < N) : tlZ N x a = x a + tlZ N x (a + 1) := by
  unfold tlZ
  rw [show N - a = (N - (a + 1)) + 1 by omega, sumR_front, Nat.add_zero]
  congr 1
  refine sumR_congr fun i _ => ?_
  rw [show a + (i + 1) = a + 1 + i by omega]
theorem tlZ_over {N : Nat} {x : Nat → Int} {a : Nat} (h : N ≤ a) : tlZ N x a = 0 := by
  unfold tlZ
  rw [show N - a = 0 by omega]
  rfl
theorem tlZ_nn {N : Nat} {x : Nat → Int} (hx : ∀ i, 0 ≤ x i) (a : Nat) : 0 ≤ tlZ N x a := sumR_nnD fun i _ => hx _
theorem tlZ_anti {N : Nat} {x : Nat → Int} (hx : ∀ i, 0 ≤ x i) (a : Nat) : tlZ N x (a + 1) ≤ tlZ N x a := by
  by_cases h : a < N
  · rw [tlZ_succ h]
    have := hx a
    omega
  · rw [tlZ_over (a := a + 1) (by omega), tlZ_over (a := a) (by omega)]
    exact Int.le_refl _
theorem tlZ_mono {N : Nat} {x : Nat → Int} (hx : ∀ i, 0 ≤ x i) (a : Nat) : ∀ d : Nat, tlZ N x (a + d) ≤ tlZ N x a
  | 0 => Int.le_refl _
  | d + 1 => Int.le_trans (tlZ_anti hx (a + d)) (tlZ_mono hx a d)
theorem sumR_abelT (n : Nat) (V B : Nat → Int) : sumR n (fun i => (V i - V (i + 1)) * B i) = (if n = 0 then 0 else V 0 * B 0) + sumR (n - 1) (fun i => V (i + 1) * (B (i + 1) - B i)) - (if n = 0 then 0 else V n * B (n - 1)) := by
  induction n with
  | zero => simp
  | succ n ih =>
    rw [sumR_back, ih]
    by_cases c : n = 0
    · subst c
      simp
      grind
    · rw [if_neg c, if_neg c, if_neg (by omega), if_neg (by omega), show n + 1 - 1 = (n - 1) + 1 by omega, sumR_back (n := n - 1)]
      rw [show n - 1 + 1 = n by omega]
      generalize sumR (n - 1) _ = S
      grind
/-- the differences of the tails' products -/
theorem tl_cross {N : Nat} {x y : Nat → Int} (hx : ∀ i, 0 ≤ x i) (hy : ∀ i, 0 ≤ y i) (hxy : ∀ a b : Nat, a < b → tlZ N x b * tlZ N y a ≤ tlZ N x a * tlZ N y b) {a b : Nat} (hab : a < b) (hb : b ≤ N) : 0 ≤ x a * tlZ N y b - tlZ N x b * y a := by
  have hxa : x a = tlZ N x a - tlZ N x (a + 1) := by rw [tlZ_succ (x := x) (show a < N by omega)]; omega
  have hya : y a = tlZ N y a - tlZ N y (a + 1) := by rw [tlZ_succ (x := y) (show a < N by omega)]; omega
  have n1 := tlZ_nn (N := N) hx (a + 1)
  have n2 := tlZ_nn (N := N) hx b
  have n3 := tlZ_nn (N := N) hy b
  have n4 := tlZ_nn (N := N) hx a
  have nm := tlZ_anti (N := N) hx a
  have nd := tlZ_mono (N := N) hx (a + 1) (b - (a + 1))
  rw [show a + 1 + (b - (a + 1)) = b by omega] at nd
  have c1 := hxy a (a + 1) (by omega)
  have c2 : tlZ N x b * tlZ N y (a + 1) ≤ tlZ N x (a + 1) * tlZ N y b := by
    by_cases e : a + 1 = b
    · subst e; rw [Int.mul_comm]; exact Int.le_refl _
    · exact hxy (a + 1) b (by omega)
  rw [hxa, hya]
  generalize tlZ N x a = X0 at *
  generalize tlZ N x (a + 1) = X1 at *
  generalize tlZ N x b = Xb at *
  generalize tlZ N y a = Y0 at *
  generalize tlZ N y (a + 1) = Y1 at *
  generalize tlZ N y b = Yb at *
  by_cases z : X1 = 0
  · have : Xb = 0 := by omega
    subst this z
    have := Int.mul_nonneg n4 n3
    simp
    omega
  · have pos : 0 < X1 := by omega
    have e : (X0 - X1) * Yb - Xb * (Y0 - Y1) = (X0 * Yb - Xb * Y0) - (X1 * Yb - Xb * Y1) := by grind
    rw [e]
    have g1 : (X1 * Yb - Xb * Y1) * X1 ≤ (X0 * Yb - Xb * Y0) * X1 := by
      have h1 : (X1 * Yb - Xb * Y1) * X1 ≤ (X1 * Yb - Xb * Y1) * X0 := Int.mul_le_mul_of_nonneg_left nm (by omega)
      have h2 := Int.mul_le_mul_of_nonneg_left c1 n2
      grind
    have := cancelZ g1 pos
    omega
/-- the bracket of a falling kernel rises -/
theorem brZ_step {f : Int → Int} (hn : ∀ m, 0 ≤ f m) (h : PFz f) (hf : ∀ m, f (m + 1) ≤ f m) {i k a b : Int} (hik : i ≤ k) (hab : a < b) : brZ f i k a (b - 1) ≤ brZ f i k a b := by
  have mono : ∀ (m : Int) (d : Nat), f (m + d) ≤ f m := by
    intro m d
    induction d with
    | zero => rw [show m + ((0 : Nat) : Int) = m by omega]; exact Int.le_refl _
    | succ d ih =>
      have := hf (m + d)
      rw [show m + (d : Int) + 1 = m + ((d + 1 : Nat) : Int) by omega] at this
      omega
  have m1 := mono (i - b + 1) (i - a - (i - b + 1)).toNat
  rw [show i - b + 1 + (((i - a - (i - b + 1)).toNat : Nat) : Int) = i - a by omega] at m1
  have m2 := mono (i - a) (k - i).toNat
  rw [show i - a + (((k - i).toNat : Nat) : Int) = k - a by omega] at m2
  have nb := brZ_nn hn h (i := i) (k := k) (a := a) (b := b - 1) hik (by omega)
  have pf := pfz_key hn h (k - i).toNat (i - b) (i - b + 1) (by omega)
  rw [show i - b + 1 + (((k - i).toNat : Nat) : Int) = k - b + 1 by omega, show i - b + (((k - i).toNat : Nat) : Int) = k - b by omega] at pf
  have fm := hf (i - b)
  have n0 := hn (i - a)
  have n1 := hn (k - a)
  have n2 := hn (i - b + 1)
  unfold brZ at *
  rw [show k - (b - 1) = k - b + 1 by omega, show i - (b - 1) = i - b + 1 by omega] at *
  generalize f (i - a) = A at *
  generalize f (k - a) = At at *
  generalize f (i - b) = u at *
  generalize f (i - b + 1) = u1 at *
  generalize f (k - b) = ut at *
  generalize f (k - b + 1) = u1t at *
  by_cases z : u1 = 0
  · have hA : A = 0 := by omega
    have hAt : At = 0 := by omega
    subst hA hAt
    simp
  · have pos : 0 < u1 := by omega
    refine cancelZ (c := u1) ?_ pos
    have h1 : (A * u1t - At * u1) * u1 ≤ (A * u1t - At * u1) * u := Int.mul_le_mul_of_nonneg_left fm (by omega)
    have h2 := Int.mul_le_mul_of_nonneg_left pf n0
    grind
theorem hr_conv {N : Nat} {x y : Nat → Int} {f : Int → Int} (hx : ∀ i, 0 ≤ x i) (hy : ∀ i, 0 ≤ y i) (hn : ∀ m, 0 ≤ f m) (h : PFz f) (hf : ∀ m, f (m + 1) ≤ f m) (hxy : ∀ a b : Nat, a < b → tlZ N x b * tlZ N y a ≤ tlZ N x a * tlZ N y b) {i k : Int} (hik : i < k) : Fz N x f k * Fz N y f i ≤ Fz N x f i * Fz N y f k := by
  have d := det_sum N x y f i k
  -- only the places a < b
  have e1 : (sumR N fun a => sumR N fun b => x a * y b * brZ f i k (a : Int) (b : Int)) = sumR N fun a => sumR (N - (a + 1)) fun j => (x a * y (a + 1 + j) - x (a + 1 + j) * y a) * brZ f i k (a : Int) ((a + 1 + j : Nat) : Int) := by
    have half : ∀ (M : Nat) (T : Nat → Nat → Int), (∀ a, T a a = 0) → (sumR M fun a => sumR M fun b => T a b) = sumR M fun a => sumR (M - (a + 1)) fun j => T a (a + 1 + j) + T (a + 1 + j) a := by
      intro M
      induction M with
      | zero => intro T _; rfl
      | succ M ih =>
        intro T hT
        have s1 : (sumR (M + 1) fun a => sumR (M + 1) fun b => T a b) = (sumR M fun a => sumR M fun b => T a b) + (sumR M fun a => T a M) + ((sumR M fun b => T M b) + T M M) := by
          rw [sumR_back, sumR_back (n := M) (f := fun b => T M b)]
          rw [sumR_congr (n := M) (f := fun a => sumR (M + 1) fun b => T a b) (g := fun a => (sumR M fun b => T a b) + T a M) fun a _ => by rw [sumR_back], sumR_add]
        have s2 : (sumR (M + 1) fun a => sumR (M + 1 - (a + 1)) fun j => T a (a + 1 + j) + T (a + 1 + j) a) = (sumR M fun a => sumR (M - (a + 1)) fun j => T a (a + 1 + j) + T (a + 1 + j) a) + sumR M fun a => T a M + T M a := by
          rw [sumR_back, show M + 1 - (M + 1) = 0 by omega, sumR_zero]
          rw [sumR_congr (n := M) (f := fun a => sumR (M + 1 - (a + 1)) fun j => T a (a + 1 + j) + T (a + 1 + j) a) (g := fun a => (sumR (M - (a + 1)) fun j => T a (a + 1 + j) + T (a + 1 + j) a) + (T a M + T M a)) fun a ha => by
            rw [show M + 1 - (a + 1) = M - (a + 1) + 1 by omega, sumR_back, show a + 1 + (M - (a + 1)) = M by omega], sumR_add]
          omega
        have eta : (sumR M fun b => T M b) = sumR M (T M) := rfl
        rw [s1, s2, ih T hT, hT M, sumR_add]
        rw [eta]
        omega
    rw [half N (fun a b => x a * y b * brZ f i k (a : Int) (b : Int)) fun a => by
      have : brZ f i k (a : Int) (a : Int) = 0 := by unfold brZ; grind
      rw [this, Int.mul_zero]]
    refine sumR_congr fun a _ => sumR_congr fun j _ => ?_
    rw [brZ_anti f i k (a : Int) ((a + 1 + j : Nat) : Int)]
    grind
  have nn : 0 ≤ sumR N fun a => sumR (N - (a + 1)) fun j => (x a * y (a + 1 + j) - x (a + 1 + j) * y a) * brZ f i k (a : Int) ((a + 1 + j : Nat) : Int) := by
    refine sumR_nnD fun a ha => ?_
    have V : ∀ j, j ≤ N - (a + 1) → 0 ≤ x a * tlZ N y (a + 1 + j) - tlZ N x (a + 1 + j) * y a := fun j hj => tl_cross hx hy hxy (by omega) (by omega)
    rw [sumR_congr (g := fun j => ((x a * tlZ N y (a + 1 + j) - tlZ N x (a + 1 + j) * y a) - (x a * tlZ N y (a + 1 + (j + 1)) - tlZ N x (a + 1 + (j + 1)) * y a)) * brZ f i k (a : Int) ((a + 1 + j : Nat) : Int)) fun j hj => by
      congr 1
      rw [tlZ_succ (x := y) (show a + 1 + j < N by omega), tlZ_succ (x := x) (show a + 1 + j < N by omega), show a + 1 + (j + 1) = a + 1 + j + 1 by omega]
      grind]
    rw [sumR_abelT (N - (a + 1)) (fun j => x a * tlZ N y (a + 1 + j) - tlZ N x (a + 1 + j) * y a) (fun j => brZ f i k (a : Int) ((a + 1 + j : Nat) : Int))]
    by_cases c : N - (a + 1) = 0
    · rw [if_pos c, c]
      simp
    · rw [if_neg c, if_neg c]
      have z1 : x a * tlZ N y (a + 1 + (N - (a + 1))) - tlZ N x (a + 1 + (N - (a + 1))) * y a = 0 := by
        rw [tlZ_over (x := y) (by omega), tlZ_over (x := x) (by omega)]
        simp
      rw [z1]
      have p1 := Int.mul_nonneg (V 0 (by omega)) (brZ_nn hn h (i := i) (k := k) (a := (a : Int)) (b := ((a + 1 + 0 : Nat) : Int)) (by omega) (by omega))
      have p2 : 0 ≤ sumR (N - (a + 1) - 1) fun j => (x a * tlZ N y (a + 1 + (j + 1)) - tlZ N x (a + 1 + (j + 1)) * y a) * (brZ f i k (a : Int) ((a + 1 + (j + 1) : Nat) : Int) - brZ f i k (a : Int) ((a + 1 + j : Nat) : Int)) := by
        refine sumR_nnD fun j hj => Int.mul_nonneg (V (j + 1) (by omega)) ?_
        have := brZ_step hn h hf (i := i) (k := k) (a := (a : Int)) (b := ((a + 1 + (j + 1) : Nat) : Int)) (by omega) (by omega)
        rw [show ((a + 1 + (j + 1) : Nat) : Int) - 1 = ((a + 1 + j : Nat) : Int) by omega] at this
        omega
      rw [Int.zero_mul, Int.sub_zero]
      omega
  omega
end Py

set_option Elab.async false
set_option linter.all false
set_option maxRecDepth 100000
namespace Py
open PySem
theorem sumR_rev : ∀ (n : Nat) (f : Nat → Int), sumR n f = sumR n fun i => f (n - 1 - i)
  | 0, f => rfl
  | n + 1, f => by
    rw [sumR_back, sumR_rev n f, sumR_front (f := fun i => f (n + 1 - 1 - i))]
    rw [show n + 1 - 1 - 0 = n by omega]
    rw [sumR_congr (f := fun i => f (n + 1 - 1 - (i + 1))) (g := fun i => f (n - 1 - i)) fun i _ => by rw [show n + 1 - 1 - (i + 1) = n - 1 - i by omega]]
    omega
def hdZ (x : Nat → Int) (a : Nat) : Int := sumR (a + 1) x
theorem rh_conv {N : Nat} {x y : Nat → Int} {f : Int → Int} (hx : ∀ i, 0 ≤ x i) (hy : ∀ i, 0 ≤ y i) (hn : ∀ m, 0 ≤ f m) (h : PFz f) (hf : ∀ m, f m ≤ f (m + 1)) (hxy : ∀ a b : Nat, a < b → b < N → hdZ x b * hdZ y a ≤ hdZ x a * hdZ y b) {i k : Int} (hik : i < k) : Fz N x f k * Fz N y f i ≤ Fz N x f i * Fz N y f k := by
  have rv : ∀ (z : Nat → Int) (n : Int), Fz N (fun a => if a < N then z (N - 1 - a) else 0) (fun m => f (-m)) n = Fz N z f ((N : Int) - 1 - n) := fun z n => by
    unfold Fz
    rw [sumR_rev N fun a => z a * f ((N : Int) - 1 - n - (a : Int))]
    refine sumR_congr fun a ha => ?_
    dsimp only
    rw [if_pos ha]
    congr 2
    omega
  have tv : ∀ (z : Nat → Int) (a : Nat), a < N → tlZ N (fun a => if a < N then z (N - 1 - a) else 0) a = hdZ z (N - 1 - a) := fun z a ha => by
    unfold tlZ hdZ
    rw [sumR_rev (N - 1 - a + 1) z, show N - 1 - a + 1 = N - a by omega]
    refine sumR_congr fun i hi => ?_
    dsimp only
    rw [if_pos (by omega)]
    congr 1
    omega
  have key := hr_conv (N := N) (x := fun a => if a < N then y (N - 1 - a) else 0) (y := fun a => if a < N then x (N - 1 - a) else 0) (f := fun m => f (-m)) (fun i => by
      show 0 ≤ if i < N then _ else _
      split
      · exact hy _
      · exact Int.le_refl _) (fun i => by
      show 0 ≤ if i < N then _ else _
      split
      · exact hx _
      · exact Int.le_refl _) (fun m => hn _) (fun p q hpq => by
      have := h (1 - q) (1 - p) (by omega)
      dsimp only
      rw [show -(p - 1) = 1 - p by omega, show -(q - 1) = 1 - q by omega]
      rw [show 1 - q - 1 = -q by omega, show 1 - p - 1 = -p by omega] at this
      rw [Int.mul_comm (f (-q)), Int.mul_comm (f (-p))]
      exact this) (fun m => by
      have := hf (-(m + 1))
      rw [show -(m + 1) + 1 = -m by omega] at this
      exact this) (fun a b hab => by
      by_cases c : b < N
      · rw [tv y b c, tv x a (by omega), tv y a (by omega), tv x b c]
        have := hxy (N - 1 - b) (N - 1 - a) (by omega) (by omega)
        rw [Int.mul_comm (hdZ y (N - 1 - b)), Int.mul_comm (hdZ y (N - 1 - a))]
        exact this
      · rw [tlZ_over (a := b) (by omega), tlZ_over (x := fun a => if a < N then x (N - 1 - a) else 0) (a := b) (by omega)]
        simp) (i := (N : Int) - 1 - k) (k := (N : Int) - 1 - i) (by omega)
  rw [rv, rv, rv, rv] at key
  rw [show (N : Int) - 1 - ((N : Int) - 1 - i) = i by omega, show (N : Int) - 1 - ((N : Int) - 1 - k) = k by omega] at key
  rw [Int.mul_comm (Fz N y f i), Int.mul_comm (Fz N y f k)] at key
  exact key
/-! the lists -/
def tz (g : List Int) (k : Int) : Int := (g.drop k.toNat).sum
def hz (g : List Int) (k : Int) : Int := (g.take (k + 1).toNat).sum
def gz (g : List Int) (k : Int) : Int := if 0 ≤ k then ix g k.toNat else 0
def kerT (t : TW) (g : List Int) : Int → Int := match t with
  | .lr => gz g | .hr => tz g | _ => hz g
def tf (t : TW) (a : List Int) (n : Nat) : Int := match t with
  | .lr => ix a n | .hr => (a.drop n).sum | _ => (a.take (n + 1)).sum
theorem drop_succ' (a : List Int) (k : Nat) : (a.drop k).sum = ix a k + (a.drop (k + 1)).sum := by
  by_cases h : k < a.length
  · rw [List.drop_eq_getElem_cons h, List.sum_cons]
    congr 1
    unfold ix
    rw [List.getD_eq_getElem?_getD, Int.toNat_natCast, List.getElem?_eq_getElem h]
    rfl
  · rw [List.drop_eq_nil_of_le (by omega), List.drop_eq_nil_of_le (by omega)]
    unfold ix
    rw [List.getD_eq_getElem?_getD, Int.toNat_natCast, List.getElem?_eq_none (by omega)]
    rfl
theorem take_drop' (a : List Int) (k : Nat) : (a.take k).sum = a.sum - (a.drop k).sum := by
  have := congrArg List.sum (List.take_append_drop k a)
  rw [List.sum_append] at this
  omega
theorem gz_tz (g : List Int) (k : Int) : gz g k = tz g k - tz g (k + 1) := by
  unfold gz tz
  split
  · rw [drop_succ' g k.toNat, show (k + 1).toNat = k.toNat + 1 by omega]
    omega
  · rw [show k.toNat = 0 by omega, show (k + 1).toNat = 0 by omega]
    omega
theorem hz_tz (g : List Int) (k : Int) : hz g k = g.sum - tz g (k + 1) := by
  unfold hz tz
  rw [take_drop']
theorem ix_overN {xs : List Int} {i : Nat} (h : xs.length ≤ i) : ix xs i = 0 := by
  unfold ix
  rw [List.getD_eq_getElem?_getD, Int.toNat_natCast, List.getElem?_eq_none h]
  rfl
theorem ix_nnN {a : List Int} (ha : ∀ x ∈ a, 0 ≤ x) (k : Nat) : 0 ≤ ix a k := by
  by_cases h : k < a.length
  · exact ha _ (ix_mem (by omega) (by omega))
  · rw [ix_overN (by omega)]
    exact Int.le_refl _
theorem gz_nn {g : List Int} (hg : ∀ x ∈ g, 0 ≤ x) (k : Int) : 0 ≤ gz g k := by
  unfold gz
  split
  · exact ix_nnN hg _
  · exact Int.le_refl _
theorem tz_nn {g : List Int} (hg : ∀ x ∈ g, 0 ≤ x) (k : Int) : 0 ≤ tz g k := sum_nn fun y hy => hg y (List.mem_of_mem_drop hy)
theorem hz_nn {g : List Int} (hg : ∀ x ∈ g, 0 ≤ x) (k : Int) : 0 ≤ hz g k := sum_nn fun y hy => hg y (List.mem_of_mem_take hy)
theorem tz_anti {g : List Int} (hg : ∀ x ∈ g, 0 ≤ x) (k : Int) : tz g (k + 1) ≤ tz g k := by
  have := gz_nn hg k
  rw [gz_tz] at this
  omega
theorem hz_mono {g : List Int} (hg : ∀ x ∈ g, 0 ≤ x) (k : Int) : hz g k ≤ hz g (k + 1) := by
  rw [hz_tz, hz_tz]
  have := tz_anti hg (k + 1)
  omega
theorem tz_neg {g : List Int} {k : Int} (h : k ≤ 0) : tz g k = g.sum := by unfold tz; rw [show k.toNat = 0 by omega]; rfl
theorem tz_over {g : List Int} {k : Int} (h : (g.length : Int) ≤ k) : tz g k = 0 := by unfold tz; rw [List.drop_eq_nil_of_le (by omega)]; rfl
theorem gz_neg {g : List Int} {k : Int} (h : k < 0) : gz g k = 0 := by unfold gz; rw [if_neg (by omega)]
theorem gz_over {g : List Int} {k : Int} (h : (g.length : Int) ≤ k) : gz g k = 0 := by unfold gz; rw [if_pos (by omega), ix_overN (by omega)]
theorem ker_nn {t : TW} {g : List Int} (hg : ∀ x ∈ g, 0 ≤ x) (k : Int) : 0 ≤ kerT t g k := by
  unfold kerT
  split
  · exact gz_nn hg k
  · exact tz_nn hg k
  · exact hz_nn hg k
/-- the condition, at the places of a row -/
def condN (t : TW) (g : List Int) (L : Nat) : Prop := ∀ p q : Nat, p < q → q < L → kerT t g (q : Int) * kerT t g ((p : Int) - 1) ≤ kerT t g (p : Int) * kerT t g ((q : Int) - 1)
def lhr (t : TW) : Prop := t = .lr ∨ t = .hr ∨ t = .rh
theorem cond_pf {t : TW} (ht : lhr t) {g : List Int} (hg : ∀ x ∈ g, 0 ≤ x) {L : Nat} (hL : g.length < L) : condN t g L ↔ PFz (kerT t g) := by
  constructor
  · intro h p q hpq
    by_cases hp : p < 0
    · rcases ht with rfl | rfl | rfl
      · show gz g q * gz g (p - 1) ≤ gz g p * gz g (q - 1)
        rw [gz_neg (show p - 1 < 0 by omega), gz_neg hp]
        simp
      · show tz g q * tz g (p - 1) ≤ tz g p * tz g (q - 1)
        rw [tz_neg (show p - 1 ≤ 0 by omega), tz_neg (show p ≤ 0 by omega), Int.mul_comm]
        have := tz_anti hg (q - 1)
        rw [show q - 1 + 1 = q by omega] at this
        exact Int.mul_le_mul_of_nonneg_left this (sum_nn hg)
      · show hz g q * hz g (p - 1) ≤ hz g p * hz g (q - 1)
        have : hz g (p - 1) = 0 := by unfold hz; rw [show (p - 1 + 1).toNat = 0 by omega]; rfl
        rw [this, Int.mul_zero]
        exact Int.mul_nonneg (hz_nn hg _) (hz_nn hg _)
    · by_cases hq : q < (L : Int)
      · have := h p.toNat q.toNat (by omega) (by omega)
        rw [show ((p.toNat : Nat) : Int) = p by omega, show ((q.toNat : Nat) : Int) = q by omega] at this
        exact this
      · rcases ht with rfl | rfl | rfl
        · show gz g q * gz g (p - 1) ≤ gz g p * gz g (q - 1)
          rw [gz_over (show (g.length : Int) ≤ q by omega), Int.zero_mul]
          exact Int.mul_nonneg (gz_nn hg _) (gz_nn hg _)
        · show tz g q * tz g (p - 1) ≤ tz g p * tz g (q - 1)
          rw [tz_over (show (g.length : Int) ≤ q by omega), Int.zero_mul]
          exact Int.mul_nonneg (tz_nn hg _) (tz_nn hg _)
        · show hz g q * hz g (p - 1) ≤ hz g p * hz g (q - 1)
          have e : hz g q = hz g (q - 1) := by
            rw [hz_tz, hz_tz, tz_over (show (g.length : Int) ≤ q + 1 by omega), tz_over (show (g.length : Int) ≤ q - 1 + 1 by omega)]
          rw [e, Int.mul_comm]
          have := hz_mono hg (p - 1)
          rw [show p - 1 + 1 = p by omega] at this
          exact Int.mul_le_mul_of_nonneg_right this (hz_nn hg _)
  · intro h p q hpq _
    exact h (p : Int) (q : Int) (by omega)
theorem cond_ext {t : TW} (ht : lhr t) {g : List Int} (hg : ∀ x ∈ g, 0 ≤ x) {L M : Nat} (hL : g.length < L) (hM : g.length < M) : condN t g L ↔ condN t g M := (cond_pf ht hg hL).trans (cond_pf ht hg hM).symm
/-! the orders by the tables of ratios -/
theorem tf_pad (t : TW) (ht : lhr t) (s : Nat) (c : Int) (xs : List Int) (n : Nat) : tf t (pad s c xs) n = tf t xs n * c := by
  have pd : ∀ k, ((pad s c xs).drop k).sum = (xs.drop k).sum * c := fun k => by
    unfold pad
    rw [List.drop_append, List.sum_append, ← List.map_drop]
    have : ∀ xs : List Int, (xs.map fun x => x * c).sum = xs.sum * c := by
      intro xs
      induction xs with
      | nil => simp
      | cons x xs ih => simp [ih, Int.add_mul]
    rw [this]
    simp
  have pi : ∀ k : Nat, ix (pad s c xs) k = ix xs k * c := fun k => by
    have h1 := drop_succ' (pad s c xs) k
    have h2 := drop_succ' xs k
    rw [pd, pd, h2] at h1
    grind
  rcases ht with rfl | rfl | rfl
  · exact pi n
  · exact pd n
  · show ((pad s c xs).take (n + 1)).sum = (xs.take (n + 1)).sum * c
    rw [take_drop', take_drop', pd, pad_sum]
    grind
theorem tab_tf (t : TW) (ht : lhr t) (x : List Int) (n : Nat) (h : n < x.length) : ix (tabI t x) n = tf t x n := by
  rcases ht with rfl | rfl | rfl
  · rfl
  · exact tl_get x n h
  · show ix (scan 0 x) n = _
    rw [scan_get 0 x n h]
    show 0 + (x.take (n + 1)).sum = (x.take (n + 1)).sum
    omega
theorem any_iffN {p : Nat → Bool} {n : Nat} : (List.range n).any p = true ↔ ∃ k, k < n ∧ p k = true := by
  rw [List.any_eq_true]
  constructor
  · rintro ⟨k, hk, h⟩; exact ⟨k, List.mem_range.mp hk, h⟩
  · rintro ⟨k, hk, h⟩; exact ⟨k, List.mem_range.mpr hk, h⟩
theorem tf_nn {t : TW} {a : List Int} (ha : ∀ x ∈ a, 0 ≤ x) (n : Nat) : 0 ≤ tf t a n := by
  unfold tf
  split
  · exact ix_nnN ha n
  · exact sum_nn fun y hy => ha y (List.mem_of_mem_drop hy)
  · exact sum_nn fun y hy => ha y (List.mem_of_mem_take hy)
/-- is at most, by ratios -/
def leT (t : TW) (a b : List Int) : Prop := ∀ i k : Nat, i < k → tf t a k * tf t b i ≤ tf t a i * tf t b k
theorem fail_leT {t : TW} (ht : lhr t) {a b : List Int} (ha : IsDr a) (hb : IsDr b) : failT t (xr a b) (yr a b) = false ↔ leT t a b := by
  have na : ∀ x ∈ a, 0 ≤ x := fun x hx => (ha.wt x hx).1
  have nb : ∀ x ∈ b, 0 ≤ x := fun x hx => (hb.wt x hx).1
  have sa := ha.sum
  have sb := hb.sum
  have hpr : t.pair = true := by rcases ht with rfl | rfl | rfl <;> rfl
  have hl : (xr a b).length = max a.length b.length := pad_len (by omega)
  have hl2 : (yr a b).length = max a.length b.length := pad_len (by omega)
  have key : ∀ i k : Nat, i < k → k < max a.length b.length → (badB t (tabI t (xr a b)) (tabI t (yr a b)) i k = true ↔ tf t a i * tf t b k < tf t a k * tf t b i) := fun i k hik hk => by
    rw [badB_pair hpr, decide_eq_true_iff, tab_tf t ht _ _ (by omega), tab_tf t ht _ _ (by omega), tab_tf t ht _ _ (by omega), tab_tf t ht _ _ (by omega)]
    unfold xr yr
    rw [tf_pad t ht, tf_pad t ht, tf_pad t ht, tf_pad t ht]
    have e : ∀ x y : Int, x * b.sum * (y * a.sum) = x * y * (b.sum * a.sum) := fun x y => by grind
    rw [e, e]
    have hp := Int.mul_pos sb sa
    constructor
    · intro h; exact Int.lt_of_mul_lt_mul_right h (Int.le_of_lt hp)
    · intro h; exact Int.mul_lt_mul_of_pos_right h hp
  unfold failT
  rw [if_pos hpr, Bool.eq_false_iff, ne_eq, any_iffN, hl]
  constructor
  · intro h i k hik
    by_cases hk : k < max a.length b.length
    · exact Int.not_lt.mp fun hlt => h ⟨k, hk, any_iffN.mpr ⟨i, hik, (key i k hik hk).mpr hlt⟩⟩
    · rcases ht with rfl | rfl | rfl
      · show ix a k * ix b i ≤ ix a i * ix b k
        rw [ix_overN (xs := a) (by omega), ix_overN (xs := b) (i := k) (by omega)]
        simp
      · show (a.drop k).sum * (b.drop i).sum ≤ (a.drop i).sum * (b.drop k).sum
        rw [List.drop_eq_nil_of_le (show a.length ≤ k by omega), List.drop_eq_nil_of_le (show b.length ≤ k by omega)]
        simp
      · -- behind the end all is gathered
        have ov : ∀ n, max a.length b.length ≤ n + 1 → tf .rh a n = a.sum ∧ tf .rh b n = b.sum := fun n hn => by
          constructor
          · show (a.take (n + 1)).sum = _
            rw [List.take_of_length_le (by omega)]
          · show (b.take (n + 1)).sum = _
            rw [List.take_of_length_le (by omega)]
        obtain ⟨o1, o2⟩ := ov k (by omega)
        by_cases hi : max a.length b.length ≤ i + 1
        · obtain ⟨o3, o4⟩ := ov i hi
          rw [o1, o2, o3, o4]
          exact Int.le_refl _
        · obtain ⟨o5, o6⟩ := ov (max a.length b.length - 1) (by omega)
          have := Int.not_lt.mp fun hlt => h ⟨max a.length b.length - 1, by omega, any_iffN.mpr ⟨i, by omega, (key i (max a.length b.length - 1) (by omega) (by omega)).mpr hlt⟩⟩
          rw [o5, o6] at this
          rw [o1, o2]
          exact this
  · rintro h ⟨k, hk, hb⟩
    obtain ⟨i, hi, hb⟩ := any_iffN.mp hb
    have := (key i k hi hk).mp hb
    have := h i k hi
    omega
end Py

set_option Elab.async false
set_option linter.all false
set_option maxRecDepth 100000
namespace Py
open PySem
/-! the sum of two draws that are drawn apart -/
def cnv (a g : List Int) : List Int := rowI a g .sum
theorem cnv_len (a g : List Int) : (cnv a g).length = a.length + g.length := by
  show (evs2 _ a g (List.replicate (a.length + g.length) 0)).length = _
  rw [evs2_len, List.length_replicate]
theorem sumR_pickN (n j : Nat) (f : Nat → Int) : sumR n (fun m => if m = j then f m else 0) = if j < n then f j else 0 := by
  induction n with
  | zero => simp
  | succ n ih =>
    rw [sumR_back, ih]
    by_cases h : n = j
    · subst h
      rw [if_neg (by omega), if_pos rfl, if_pos (by omega)]
      omega
    · rw [if_neg h]
      by_cases h2 : j < n
      · rw [if_pos h2, if_pos (by omega)]; omega
      · rw [if_neg h2, if_neg (by omega)]; omega
theorem fold_ix (pl : Nat → Nat) (v : Nat → Int) : ∀ (m : Nat) (r : List Int) (k : Nat), (∀ j, j < m → pl j < r.length) → ix ((List.range m).foldl (fun r j => addAt r (pl j) (v j)) r) k = ix r k + sumR m fun j => if k = pl j then v j else 0 := by
  intro m
  induction m with
  | zero => intro r k _; simp
  | succ m ih =>
    intro r k h
    rw [List.range_succ, List.foldl_append, List.foldl_cons, List.foldl_nil, ix_addAt (by rw [foldl_len _ (fun _ _ => by simp)]; exact h m (by omega)), ih r k fun j hj => h j (by omega), sumR_back]
    omega
theorem evI_ix (pl : Nat → Nat → Nat) (b : List Int) (ai : Int) (i : Nat) (r : List Int) (k : Nat) (h : ∀ j, j < b.length → pl i j < r.length) : ix (evI pl b ai i r) k = ix r k + sumR b.length fun j => if k = pl i j then ai * ix b j else 0 := fold_ix (pl i) (fun j => ai * ix b j) b.length r k h
theorem evs2_ix (pl : Nat → Nat → Nat) (a b : List Int) (r : List Int) (k : Nat) (h : ∀ i j, i < a.length → j < b.length → pl i j < r.length) : ix (evs2 pl a b r) k = ix r k + sumR a.length fun i => sumR b.length fun j => if k = pl i j then ix a i * ix b j else 0 := by
  unfold evs2
  have key : ∀ m, m ≤ a.length → ix ((List.range m).foldl (fun r (i : Nat) => evI pl b (ix a i) i r) r) k = ix r k + sumR m fun i => sumR b.length fun j => if k = pl i j then ix a i * ix b j else 0 := by
    intro m
    induction m with
    | zero => intro _; simp
    | succ m ih =>
      intro hm
      rw [List.range_succ, List.foldl_append, List.foldl_cons, List.foldl_nil, evI_ix _ _ _ _ _ _ (fun j hj => by
        rw [foldl_len _ (fun _ _ => evI_len ..)]
        exact h m j (by omega) hj), ih (by omega), sumR_back]
      omega
  exact key a.length (Nat.le_refl _)
theorem ix_rep0 (n k : Nat) : ix (List.replicate n 0) k = 0 := by
  unfold ix
  rw [List.getD_eq_getElem?_getD, Int.toNat_natCast, List.getElem?_replicate]
  split <;> rfl
theorem cnv_ix (a g : List Int) (n : Nat) : ix (cnv a g) n = Fz a.length (fun i => ix a i) (gz g) ((n : Int) - 1) := by
  show ix (evs2 _ a g (List.replicate (a.length + g.length) 0)) n = _
  rw [evs2_ix _ _ _ _ _ (fun i j hi hj => by rw [List.length_replicate]; omega), ix_rep0]
  unfold Fz
  rw [Int.zero_add]
  refine sumR_congr fun i hi => ?_
  dsimp only
  by_cases c : i + 1 ≤ n
  · rw [sumR_congr (g := fun j => if j = n - 1 - i then ix a i * ix g j else 0) fun j _ => by
      by_cases e : j = n - 1 - i
      · rw [if_pos e, if_pos (by omega)]
      · rw [if_neg e, if_neg (by omega)]]
    have eg : gz g ((n : Int) - 1 - (i : Int)) = ix g ((n - 1 - i : Nat) : Int) := by
      unfold gz
      rw [if_pos (by omega), show ((n : Int) - 1 - (i : Int)).toNat = n - 1 - i by omega]
    rw [sumR_pickN, eg]
    by_cases e : n - 1 - i < g.length
    · rw [if_pos e]
    · rw [if_neg e, ix_overN (xs := g) (i := n - 1 - i) (by omega), Int.mul_zero]
  · rw [gz_neg (by omega), Int.mul_zero]
    rw [sumR_congr (g := fun _ => 0) fun j _ => if_neg (by omega), sumR_const0]
theorem Fz_sub (N : Nat) (x : Nat → Int) (f g : Int → Int) (n : Int) : Fz N x (fun k => f k - g k) n = Fz N x f n - Fz N x g n := by
  unfold Fz
  rw [← sumR_sub]
  refine sumR_congr fun i _ => ?_
  rw [Int.mul_sub]
theorem Fz_shift (N : Nat) (x : Nat → Int) (f : Int → Int) (n : Int) : Fz N x (fun k => f (k + 1)) n = Fz N x f (n + 1) := by
  unfold Fz
  refine sumR_congr fun i _ => ?_
  dsimp only
  rw [show n - (i : Int) + 1 = n + 1 - (i : Int) by omega]
theorem cnv_drop (a g : List Int) (n : Nat) : ((cnv a g).drop n).sum = Fz a.length (fun i => ix a i) (tz g) ((n : Int) - 1) := by
  have key : ∀ m n : Nat, (cnv a g).length - n = m → ((cnv a g).drop n).sum = Fz a.length (fun i => ix a i) (tz g) ((n : Int) - 1) := by
    intro m
    induction m with
    | zero =>
      intro n hn
      rw [cnv_len] at hn
      rw [List.drop_eq_nil_of_le (by rw [cnv_len]; omega)]
      unfold Fz
      rw [sumR_congr (g := fun _ => 0) fun i hi => by rw [tz_over (by omega), Int.mul_zero], sumR_const0]
      rfl
    | succ m ih =>
      intro n hn
      rw [drop_succ', ih (n + 1) (by omega), cnv_ix]
      have e : gz g = fun k => tz g k - (fun k => tz g (k + 1)) k := funext fun k => gz_tz g k
      rw [e, Fz_sub, Fz_shift]
      rw [show ((n + 1 : Nat) : Int) - 1 = (n : Int) - 1 + 1 by omega]
      omega
  exact key _ n rfl
theorem cnv_tf {t : TW} (ht : lhr t) (a g : List Int) (n : Nat) : tf t (cnv a g) n = Fz a.length (fun i => ix a i) (kerT t g) ((n : Int) - 1) := by
  rcases ht with rfl | rfl | rfl
  · exact cnv_ix a g n
  · exact cnv_drop a g n
  · show ((cnv a g).take (n + 1)).sum = Fz _ _ (hz g) _
    have e : hz g = fun k => (fun _ => g.sum) k - (fun k => tz g (k + 1)) k := funext fun k => hz_tz g k
    rw [take_drop', cnv_drop, e, Fz_sub, Fz_shift]
    have s0 := cnv_drop a g 0
    rw [List.drop_zero] at s0
    rw [s0]
    have e2 : Fz a.length (fun i => ix a i) (tz g) (((0 : Nat) : Int) - 1) = Fz a.length (fun i => ix a i) (fun _ => g.sum) ((n : Int) - 1) := by
      unfold Fz
      refine sumR_congr fun i _ => ?_
      rw [tz_neg (by omega)]
    rw [e2, show ((n + 1 : Nat) : Int) - 1 = (n : Int) - 1 + 1 by omega]
theorem Fz_ext {a : List Int} {N : Nat} (h : a.length ≤ N) (f : Int → Int) (n : Int) : Fz a.length (fun i => ix a i) f n = Fz N (fun i => ix a i) f n := by
  unfold Fz
  obtain ⟨d, rfl⟩ : ∃ d, N = a.length + d := ⟨N - a.length, by omega⟩
  induction d with
  | zero => rfl
  | succ d ih =>
    rw [← Nat.add_assoc, sumR_back, ← ih (by omega)]
    dsimp only
    rw [ix_overN (xs := a) (i := a.length + d) (by omega), Int.zero_mul]
    omega
theorem tlZ_drop {a : List Int} {N : Nat} (h : a.length ≤ N) (m : Nat) : tlZ N (fun i => ix a i) m = (a.drop m).sum := by
  have key : ∀ d m : Nat, N - m = d → tlZ N (fun i => ix a i) m = (a.drop m).sum := by
    intro d
    induction d with
    | zero => intro m hm; rw [tlZ_over (by omega), List.drop_eq_nil_of_le (by omega)]; rfl
    | succ d ih =>
      intro m hm
      rw [tlZ_succ (by omega), ih (m + 1) (by omega), drop_succ' a m]
  exact key _ m rfl
theorem hdZ_take (a : List Int) (m : Nat) : hdZ (fun i => ix a i) m = (a.take (m + 1)).sum := by
  unfold hdZ
  induction m with
  | zero =>
    have h := drop_succ' a 0
    rw [List.drop_zero] at h
    rw [take_drop', h, sumR_back, sumR_zero]
    show 0 + ix a ((0 : Nat) : Int) = ix a ((0 : Nat) : Int) + (a.drop (0 + 1)).sum - (a.drop (0 + 1)).sum
    omega
  | succ m ih =>
    rw [sumR_back, ih, take_drop', take_drop', drop_succ' a (m + 1)]
    omega
/-- where the condition holds the order stays -/
theorem stays_le {t : TW} (ht : lhr t) {a b g : List Int} (ha : ∀ x ∈ a, 0 ≤ x) (hb : ∀ x ∈ b, 0 ≤ x) (hg : ∀ x ∈ g, 0 ≤ x) (hp : PFz (kerT t g)) (h : leT t a b) : leT t (cnv a g) (cnv b g) := by
  intro i k hik
  rw [cnv_tf ht, cnv_tf ht, cnv_tf ht, cnv_tf ht]
  generalize hN : max a.length b.length = N
  rw [Fz_ext (a := a) (N := N) (by omega), Fz_ext (a := a) (N := N) (by omega), Fz_ext (a := b) (N := N) (by omega), Fz_ext (a := b) (N := N) (by omega)]
  rcases ht with rfl | rfl | rfl
  · exact lr_conv (gz_nn hg) hp (fun u v huv => h u v huv) (by omega)
  · refine hr_conv (ix_nnN ha) (ix_nnN hb) (tz_nn hg) hp (tz_anti hg) (fun u v huv => ?_) (by omega)
    rw [tlZ_drop (a := a) (by omega), tlZ_drop (a := b) (by omega), tlZ_drop (a := a) (by omega), tlZ_drop (a := b) (by omega)]
    exact h u v huv
  · refine rh_conv (ix_nnN ha) (ix_nnN hb) (hz_nn hg) hp (hz_mono hg) (fun u v huv _ => ?_) (by omega)
    rw [hdZ_take, hdZ_take, hdZ_take, hdZ_take]
    exact h u v huv
/-- 1 alone and 2 alone -/
theorem ones_le {t : TW} (ht : lhr t) {g : List Int} (hg : ∀ x ∈ g, 0 ≤ x) : leT t (cnv [1] g) (cnv [0, 1] g) ↔ PFz (kerT t g) := by
  have f1 : ∀ n : Int, Fz 1 (fun i => ix [1] i) (kerT t g) n = kerT t g n := fun n => by
    unfold Fz
    rw [sumR_back, sumR_zero]
    show 0 + 1 * kerT t g (n - ((0 : Nat) : Int)) = _
    rw [show n - ((0 : Nat) : Int) = n by omega]
    omega
  have f2 : ∀ n : Int, Fz 2 (fun i => ix [0, 1] i) (kerT t g) n = kerT t g (n - 1) := fun n => by
    unfold Fz
    rw [sumR_back, sumR_back, sumR_zero]
    show 0 + 0 * _ + 1 * kerT t g (n - ((1 : Nat) : Int)) = _
    rw [show n - ((1 : Nat) : Int) = n - 1 by omega]
    omega
  have e1 : ∀ n : Nat, tf t (cnv [1] g) n = kerT t g ((n : Int) - 1) := fun n => by rw [cnv_tf ht]; exact f1 _
  have e2 : ∀ n : Nat, tf t (cnv [0, 1] g) n = kerT t g ((n : Int) - 1 - 1) := fun n => by rw [cnv_tf ht]; exact f2 _
  constructor
  · intro h
    rw [← cond_pf ht hg (L := g.length + 1) (by omega)]
    intro p q hpq _
    have := h (p + 1) (q + 1) (by omega)
    rw [e1, e1, e2, e2] at this
    rw [show ((p + 1 : Nat) : Int) - 1 = (p : Int) by omega, show ((q + 1 : Nat) : Int) - 1 = (q : Int) by omega] at this
    exact this
  · intro h i k hik
    rw [e1, e1, e2, e2]
    exact h _ _ (by omega)
/-! in least terms -/
theorem low_ix (c : List Int) (hc : ∀ x ∈ c, 0 ≤ x) (n : Nat) : ix (lowI c) n * (gcdL (strp c) : Int) = ix c n := by
  obtain ⟨m, hm⟩ := strp_pre c
  have e1 : ix c n = ix (strp c) n := by
    rw [hm]
    unfold ix
    rw [List.getD_eq_getElem?_getD, List.getD_eq_getElem?_getD, Int.toNat_natCast]
    by_cases h : n < (strp c).length
    · rw [List.getElem?_append_left h]
      congr 1
      rw [← hm]
    · rw [List.getElem?_append_right (by omega), List.getElem?_eq_none (l := strp (strp c ++ List.replicate m 0)) (by rw [← hm]; omega), List.getElem?_replicate]
      split <;> rfl
  rw [e1]
  unfold lowI
  by_cases h : n < (strp c).length
  · rw [ix_map _ _ _ h]
    have e2 : ix (strp c) n = (strp c)[n] := by
      unfold ix
      rw [List.getD_eq_getElem?_getD, Int.toNat_natCast, List.getElem?_eq_getElem h]
      rfl
    rw [e2]
    have hmem : (strp c)[n] ∈ strp c := List.getElem_mem h
    have hd := (gcdF_dvd (strp c) 0).2 _ hmem
    have hnn := hc _ (strp_mem hmem)
    have : ((gcdL (strp c) : Nat) : Int) ∣ (strp c)[n] := by
      have := Int.natCast_dvd_natCast.mpr hd
      rw [Int.toNat_of_nonneg hnn] at this
      exact this
    exact Int.ediv_mul_cancel this
  · rw [ix_overN (by rw [List.length_map]; omega), ix_overN (xs := strp c) (by omega), Int.zero_mul]
theorem scale_drop {c d : List Int} {G : Int} (h : ∀ n : Nat, ix d n * G = ix c n) (n : Nat) : (d.drop n).sum * G = (c.drop n).sum := by
  have key : ∀ m n : Nat, max c.length d.length - n = m → (d.drop n).sum * G = (c.drop n).sum := by
    intro m
    induction m with
    | zero => intro n hn; rw [List.drop_eq_nil_of_le (show d.length ≤ n by omega), List.drop_eq_nil_of_le (show c.length ≤ n by omega)]; simp
    | succ m ih =>
      intro n hn
      rw [drop_succ' d, drop_succ' c, ← ih (n + 1) (by omega), ← h n, Int.add_mul]
  exact key _ n rfl
theorem scale_tf {t : TW} (ht : lhr t) {c d : List Int} {G : Int} (h : ∀ n : Nat, ix d n * G = ix c n) (n : Nat) : tf t d n * G = tf t c n := by
  rcases ht with rfl | rfl | rfl
  · exact h n
  · exact scale_drop h n
  · show (d.take (n + 1)).sum * G = (c.take (n + 1)).sum
    have s := scale_drop h 0
    rw [List.drop_zero, List.drop_zero] at s
    rw [take_drop', take_drop', Int.sub_mul, scale_drop h, s]
theorem leT_scale {t : TW} (ht : lhr t) {c d c2 d2 : List Int} {G G2 : Int} (hG : 0 < G) (hG2 : 0 < G2) (h : ∀ n : Nat, ix d n * G = ix c n) (h2 : ∀ n : Nat, ix d2 n * G2 = ix c2 n) : leT t d d2 ↔ leT t c c2 := by
  have hp := Int.mul_pos hG hG2
  have e : ∀ i k : Nat, tf t c i * tf t c2 k = tf t d i * tf t d2 k * (G * G2) := fun i k => by
    rw [← scale_tf ht h, ← scale_tf ht h2]
    grind
  constructor
  · intro l i k hik
    have := Int.mul_le_mul_of_nonneg_right (l i k hik) (Int.le_of_lt hp)
    rw [e, e]
    exact this
  · intro l i k hik
    have := l i k hik
    rw [e, e] at this
    exact Int.le_of_mul_le_mul_right this hp
end Py

set_option Elab.async false
set_option linter.all false
set_option maxRecDepth 100000
namespace Py
open PySem
def S_stays_with_w0 (call : Str → List D → M D) (w : Nat) (σ : St) : M (List D) :=
  (iterS ("range" : Str) [(pure (.int 1)), (rdV σ 5)])
def S_stays_with_e1 (call : Str → List D → M D) (w : Nat) (σ : St) : M D :=
  (cmp1 (binS .Mult (ixS (rd σ 3) (rd σ 6)) (ixS (rd σ 3) (binS .Sub (rd σ 5) (pure (.int 1))))) (binS .Mult (ixS (rd σ 3) (rd σ 5)) (ixS (rd σ 3) (binS .Sub (rd σ 6) (pure (.int 1))))) .GtE)
def S_stays_with (call : Str → List D → M D) (w : Nat) : List D → M D := runS ⟨false, false⟩ 2 7 fun σ =>
  thenF (sExp (frz σ [1]) (callS call ("check_draw" : Str) [(rdV (frz σ [1]) 1)])) fun σ =>
  thenF (sIf σ (orS [(notS (isiS (rd σ 0) ("str" : Str))), (cmp1 (rd σ 0) (tupS [(pure (.str "lr")), (pure (.str "hr")), (pure (.str "rh"))]) .NotIn)])
  (thenF (sRaise ("Malformed" : Str) σ) fun σ =>
    sEnd σ)
  (sEnd σ)) fun σ =>
  thenF (sAsg σ (binS .Add (binS .Add (lstS [(pure (.int 0))]) (biS ("list" : Str) [(rd σ 1)])) (lstS [(pure (.int 0))])) 2 true) fun σ =>
  thenF (sAsg (frz σ [2, 2, 2]) (ixS (dctS [((pure (.str "lr")), (rdV (frz σ [2, 2, 2]) 2)), ((pure (.str "hr")), (callS call ("tails" : Str) [(rdV (frz σ [2, 2, 2]) 2)])), ((pure (.str "rh")), (callS call ("heads" : Str) [(rdV (frz σ [2, 2, 2]) 2)]))]) (rd (frz σ [2, 2, 2]) 0)) 3 false) fun σ =>
  thenF (sAsg σ (biS ("len" : Str) [(rd σ 3)]) 4 false) fun σ =>
  thenF (sRet (frz σ [0, 1, 2, 3, 4]) (biS ("all" : Str) [(comp2S (iterS ("range" : Str) [(pure (.int 1)), (rd (frz σ [0, 1, 2, 3, 4]) 4)]) (fun d => bindG (.one 5) (wipe (frz σ [0, 1, 2, 3, 4]) [5, 6]) d) (fun _ => pure true) (S_stays_with_w0 call w) [6] (bindG (.one 6)) (fun _ => pure true) (S_stays_with_e1 call w))]) false) fun σ =>
  sEnd σ

def S__law_condition_i0 (call : Str → List D → M D) (w : Nat) (σ : St) : M Bool :=
  tstS (cmp1 (binS .Mult (ixS (rd σ 2) (rd σ 4)) (ixS (rd σ 2) (binS .Sub (rd σ 3) (pure (.int 1))))) (binS .Mult (ixS (rd σ 2) (rd σ 3)) (ixS (rd σ 2) (binS .Sub (rd σ 4) (pure (.int 1))))) .Lt)
def S__law_condition_e1 (call : Str → List D → M D) (w : Nat) (σ : St) : M D :=
  (rdV σ 4)
def S__law_condition_b2 (call : Str → List D → M D) (w : Nat) (σ : St) : M Flow :=
  thenF (sIf σ (cmp1 (compS (iterS ("range" : Str) [(pure (.int 1)), (rd σ 3)]) (fun d => bindG (.one 4) (wipe σ [4]) d) (S__law_condition_i0 call w) (S__law_condition_e1 call w)) (lstS []) .NotEq)
  (thenF (sRet (frz σ [0, 1, 2, 3]) (pure (.bool false)) false) fun σ =>
    sEnd σ)
  (sEnd σ)) fun σ =>
  sEnd σ
def S__law_condition (call : Str → List D → M D) (w : Nat) : List D → M D := runS ⟨false, false⟩ 2 5 fun σ =>
  thenF (sAsg σ (binS .Add (binS .Add (lstS [(pure (.int 0))]) (biS ("list" : Str) [(rd σ 1)])) (lstS [(pure (.int 0)), (pure (.int 0))])) 2 true) fun σ =>
  thenF (sIf σ (cmp1 (rd σ 0) (pure (.str "hr")) .Eq)
  (thenF (sAsg (frz σ [2]) (callS call ("_law_tails" : Str) [(rdV (frz σ [2]) 2)]) 2 false) fun σ =>
    sEnd σ)
  (sEnd σ)) fun σ =>
  thenF (sIf σ (cmp1 (rd σ 0) (pure (.str "rh")) .Eq)
  (thenF (sAsg (frz σ [2]) (callS call ("_law_heads" : Str) [(rdV (frz σ [2]) 2)]) 2 false) fun σ =>
    sEnd σ)
  (sEnd σ)) fun σ =>
  thenF (sFor σ (iterS ("range" : Str) [(pure (.int 1)), (biS ("len" : Str) [(rd σ 2)])]) (.one 3) (S__law_condition_b2 call w)) fun σ =>
  thenF (sRet (frz σ [0, 1, 2, 3]) (pure (.bool true)) false) fun σ =>
  sEnd σ

def S__law_even_b0 (call : Str → List D → M D) (w : Nat) (σ : St) : M Flow :=
  thenF (sAsg σ (biS ("max" : Str) [(pure (.int 1)), (binS .Sub (rd σ 2) (callF call ("_law_take" : Str) [(rd σ 0), (pure (.int 2))]))]) 2 false) fun σ =>
  thenF (sApp σ 1 (binS .Mult (ixS (rd σ 1) (negS (pure (.int 1)))) (rd σ 2))) fun σ =>
  sEnd σ
def S__law_even (call : Str → List D → M D) (w : Nat) : List D → M D := runS ⟨false, false⟩ 1 4 fun σ =>
  thenF (sAsg σ (lstS [(binS .Add (pure (.int 1)) (callF call ("_law_take" : Str) [(rd σ 0), (pure (.int 4))]))]) 1 true) fun σ =>
  thenF (sAsg σ (binS .Add (pure (.int 1)) (callF call ("_law_take" : Str) [(rd σ 0), (pure (.int 4))])) 2 true) fun σ =>
  thenF (sFor σ (iterS ("range" : Str) [(callF call ("_law_take" : Str) [(rd σ 0), (pure (.int 5))])]) (.one 3) (S__law_even_b0 call w)) fun σ =>
  thenF (sRet (frz σ [0, 1, 2, 3]) (biS ("tuple" : Str) [(binS .Add (binS .Mult (lstS [(pure (.int 0))]) (callF call ("_law_take" : Str) [(rd (frz σ [0, 1, 2, 3]) 0), (pure (.int 3))])) (rd (frz σ [0, 1, 2, 3]) 1))]) false) fun σ =>
  sEnd σ

def S__law_malformed (call : Str → List D → M D) (w : Nat) : List D → M D := runS ⟨false, false⟩ 2 3 fun σ =>
  thenF (sTry (thenF (sExp (frz σ [0, 1]) (callS call ("stays_with" : Str) [(rdV (frz σ [0, 1]) 0), (rdV (frz σ [0, 1]) 1)])) fun σ =>
    sEnd σ) (catchS (fun x => decide (x ∈ (["Malformed"] : List Str))) ("Malformed" : Str) (fun n => decide (2 < n)) (fun x => ((([(("Malformed", "Fault"), true), (("Malformed", "ValueError"), true)] : List ((Str × Str) × Bool)).lookup (x, ("Fault" : Str))).map .bool)))) fun σ =>
  thenF (sRet (frz σ [0, 1, 2]) (pure (.bool false)) false) fun σ =>
  sEnd σ

/-! the condition -/
def cndAt (t : TW) (g : List Int) (p q : Nat) : Bool := decide (kerT t g (q : Int) * kerT t g ((p : Int) - 1) ≤ kerT t g (p : Int) * kerT t g ((q : Int) - 1))
def condB (t : TW) (g : List Int) (L : Nat) : Bool := (List.range L).all fun (q : Nat) => (List.range q).all fun (p : Nat) => cndAt t g p q
theorem condB_iff (t : TW) (g : List Int) (L : Nat) : condB t g L = true ↔ condN t g L := by
  unfold condB condN cndAt
  rw [List.all_eq_true]
  constructor
  · intro h p q hpq hq
    have := List.all_eq_true.mp (h q (List.mem_range.mpr hq)) p (List.mem_range.mpr hpq)
    simpa using this
  · intro h q hq
    rw [List.all_eq_true]
    intro p hp
    have := h p q (List.mem_range.mp hp) (List.mem_range.mp hq)
    simpa using this
def row0 (g : List Int) (m : Nat) : List Int := 0 :: (g ++ List.replicate m 0)
theorem row0_len (g : List Int) (m : Nat) : (row0 g m).length = g.length + m + 1 := by simp [row0]
theorem row0_ix (g : List Int) (m i : Nat) : ix (row0 g m) i = gz g ((i : Int) - 1) := by
  cases i with
  | zero => rw [gz_neg (by omega)]; rfl
  | succ i =>
    unfold gz
    rw [if_pos (by omega), show (((i + 1 : Nat) : Int) - 1).toNat = i by omega]
    show ix (g ++ List.replicate m 0) i = _
    by_cases h : i < g.length
    · unfold ix
      rw [List.getD_eq_getElem?_getD, List.getD_eq_getElem?_getD, Int.toNat_natCast, List.getElem?_append_left h]
    · rw [ix_overN (xs := g) (by omega)]
      unfold ix
      rw [List.getD_eq_getElem?_getD, Int.toNat_natCast, List.getElem?_append_right (by omega), List.getElem?_replicate]
      split <;> rfl
theorem row0_drop (g : List Int) (m n : Nat) : ((row0 g m).drop n).sum = tz g ((n : Int) - 1) := by
  have key : ∀ d n : Nat, (row0 g m).length - n = d → ((row0 g m).drop n).sum = tz g ((n : Int) - 1) := by
    intro d
    induction d with
    | zero =>
      intro n hn
      rw [row0_len] at hn
      rw [List.drop_eq_nil_of_le (by rw [row0_len]; omega), tz_over (by omega)]
      rfl
    | succ d ih =>
      intro n hn
      rw [drop_succ', row0_ix, ih (n + 1) (by omega), gz_tz, show ((n + 1 : Nat) : Int) - 1 = (n : Int) - 1 + 1 by omega]
      omega
  exact key _ n rfl
theorem row0_tab {t : TW} (ht : lhr t) (g : List Int) (m i : Nat) (h : i < g.length + m + 1) : ix (tabI t (row0 g m)) i = kerT t g ((i : Int) - 1) := by
  rw [tab_tf t ht _ _ (by rw [row0_len]; exact h)]
  rcases ht with rfl | rfl | rfl
  · exact row0_ix g m i
  · exact row0_drop g m i
  · show ((row0 g m).take (i + 1)).sum = hz g ((i : Int) - 1)
    rw [take_drop', row0_drop, hz_tz]
    have := row0_drop g m 0
    rw [List.drop_zero, tz_neg (by omega)] at this
    rw [this, show ((i + 1 : Nat) : Int) - 1 = (i : Int) - 1 + 1 by omega]
def mal28 : Exc := ⟨"Malformed", []⟩
def strange28 : List D := [.none, .str "", .str "st", .str "mrl", .int 0, .tuple [.str "lr"]]
theorem tab_bt {t : TW} (ht : lhr t) {g : List Int} (hg : IsDr g) (m : Nat) (hm : m ≤ 2) : ∀ x ∈ tabI t (row0 g m), Bt 40 x := by
  have l := hg.most
  have b0 : ∀ x ∈ row0 g m, Bt 20 x := fun x hx => by
    unfold row0 at hx
    rcases List.mem_cons.mp hx with rfl | hx
    · exact Bt.of_lt (by decide) (by decide)
    · rcases List.mem_append.mp hx with hx | hx
      · exact hg.bt hx
      · rw [List.eq_of_mem_replicate hx]; exact Bt.of_lt (by decide) (by decide)
  intro x hx
  obtain ⟨k, hk, rfl⟩ := List.mem_iff_getElem.mp hx
  have e1 : (tabI t (row0 g m))[k] = ix (tabI t (row0 g m)) k := by simp [ix, hk]
  rw [tabI_len] at hk
  rw [e1, tab_tf t ht _ _ hk]
  rw [row0_len] at hk
  have l0 := row0_len g m
  rcases ht with rfl | rfl | rfl
  · exact (b0 _ (ix_mem (by omega) (by rw [l0]; omega))).mono (by decide)
  · exact (Bt.sum (n := 20) (m := 10) (by rw [List.length_drop, l0]; omega) fun y hy => b0 y (List.mem_of_mem_drop hy)).mono (by decide)
  · exact (Bt.sum (n := 20) (m := 10) (by rw [List.length_take, l0]; omega) fun y hy => b0 y (List.mem_of_mem_take hy)).mono (by decide)
def Sp_stays_with (f : List D → M D) : Prop := (∀ (t : TW) (g : List Int), lhr t → IsDr g → f [t.D, tupD g] = pure (.bool (condB t g (g.length + 1)))) ∧ (∀ x y : D, nod y = true → isDraw y = false → f [x, y] = throwX mal28) ∧ ∀ x ∈ strange28, f [x, tupD [1]] = throwX mal28
theorem flat_all {L : Nat} (c : Nat → Nat → Bool) : ((List.range L).flatMap fun q => (List.range q).map fun p => c p q).all id = (List.range L).all fun q => (List.range q).all fun p => c p q := by
  rw [Bool.eq_iff_iff, List.all_eq_true, List.all_eq_true]
  constructor
  · intro h q hq
    rw [List.all_eq_true]
    intro p hp
    exact h (c p q) (List.mem_flatMap.mpr ⟨q, hq, List.mem_map.mpr ⟨p, hp, rfl⟩⟩)
  · intro h b hb
    obtain ⟨q, hq, hb⟩ := List.mem_flatMap.mp hb
    obtain ⟨p, hp, rfl⟩ := List.mem_map.mp hb
    exact List.all_eq_true.mp (h q hq) p hp
theorem flat_len28 (L : Nat) (hL : L ≤ 60) (c : Nat → Nat → D) : ((List.range L).flatMap fun q => (List.range q).map fun p => c p q).length ≤ 10000 := by
  have : ∀ n, n ≤ 60 → ((List.range n).flatMap fun q => (List.range q).map fun p => c p q).length ≤ n * 60 := by
    intro n
    induction n with
    | zero => intro _; simp
    | succ n ih =>
      intro hn
      rw [List.range_succ, List.flatMap_append, List.length_append, List.flatMap_cons, List.flatMap_nil, List.append_nil, List.length_map, List.length_range]
      have := ih (by omega)
      omega
  have := this L hL
  omega
theorem s_stays_with {call : Str → List D → M D} {w : Nat} (h1 : Sp_check_draw (call "check_draw")) (h2 : Sp_tails (call "tails")) (h3 : Sp_heads (call "heads")) : Sp_stays_with (S_stays_with call w) := by
  refine ⟨fun t g ht hg => ?_, fun x y hy hf => ?_, fun x hx => ?_⟩
  · have lg := hg.most
    have c1 := h1 (tupD g) (by simp)
    rw [hg.is, if_pos rfl] at c1
    unfold S_stays_with
    rw [runS_2]
    have q1 : ∀ t : TW, lhr t → inD t.D (.tuple [.str "lr", .str "hr", .str "rh"]) = pure true := fun t ht => by rcases ht with rfl | rfl | rfl <;> kernel_rfl
    have q0 : ∀ t : TW, isiS (pure t.D) "str" = pure (.bool true) := fun t => by cases t <;> rfl
    have ad1 : binop .Add (.list [.int 0]) (.list (g.map .int)) = pure (.list (.int 0 :: g.map .int)) := binop_addL (sl (by simp; omega))
    have ad2 : binop .Add (.list (.int 0 :: g.map .int)) (.list [.int 0]) = pure (lisD (row0 g 1)) := by
      rw [binop_addL (sl (by simp; omega))]
      simp [row0, lisD]
    have t1 := h2 (row0 g 1) (by rw [row0_len]; omega)
    have t2 := h3 (row0 g 1) (by rw [row0_len]; omega)
    have dct : ∀ x y z : D, dctS [(pure (.str "lr"), pure x), (pure (.str "hr"), pure y), (pure (.str "rh"), pure z)] = pure (.dict [(.str "lr", x), (.str "hr", y), (.str "rh", z)]) := fun x y z => by kernel_rfl
    have gd : getD' (.dict [(.str "lr", lisD (row0 g 1)), (.str "hr", lisD (tl (row0 g 1))), (.str "rh", lisD (scan 0 (row0 g 1)))]) t.D = pure (lisD (tabI t (row0 g 1))) := by
      rcases ht with rfl | rfl | rfl <;> kernel_rfl
    have rl : (tabI t (row0 g 1)).length = g.length + 2 := by rw [tabI_len, row0_len]
    have r1 : iterC "range" [.int 1, .int ((g.length : Int) + 2)] = pure ((List.range (g.length + 1)).map fun (i : Nat) => PyData.int (1 + (i : Int))) := by
      rw [range2 (by decide) (by decide) (by omega) (by omega), show ((g.length : Int) + 2 - 1).toNat = g.length + 1 by omega]
    have cp := comp2S_map (items := pure ((List.range (g.length + 1)).map fun (i : Nat) => PyData.int (1 + (i : Int)))) (bind := fun d => bindG (.one 5) (wipe [some (t.D, false), some (tupD g, false), some (lisD (row0 g 1), false), some (lisD (tabI t (row0 g 1)), false), some (.int ((g.length : Int) + 2), false), none, none] [5, 6]) d) (it := S_stays_with_w0 call w) (vs := [6]) (bind2 := bindG (.one 6)) (g := S_stays_with_e1 call w) (List.range (g.length + 1)) (fun (i : Nat) => PyData.int (1 + (i : Int))) (fun q => List.range q) (fun (_ : Nat) (p : Nat) => PyData.int (1 + (p : Int))) (fun q p => .bool (cndAt t g p q)) rfl (sl (flat_len28 _ (by omega) _)) (fun q hq => ⟨_, rfl, by
        have hq := List.mem_range.mp hq
        have r2 : iterC "range" [.int 1, .int (1 + (q : Int))] = pure ((List.range q).map fun (i : Nat) => PyData.int (1 + (i : Int))) := by
          rw [range2 (by decide) (by decide) (by omega) (by omega), show (1 + (q : Int) - 1).toNat = q by omega]
        simp [S_stays_with_w0, iterS, r2], fun p hp => ⟨_, rfl, by
        have hq := List.mem_range.mp hq
        have hp := List.mem_range.mp hp
        have bb := tab_bt ht hg 1 (by decide)
        have gi : ∀ (j : Nat) (i : Int), i = (j : Int) → j < g.length + 2 → getD' (.list ((tabI t (row0 g 1)).map .int)) (.int i) = pure (.int (kerT t g ((j : Int) - 1))) ∧ Bt 40 (kerT t g ((j : Int) - 1)) := fun j i hi hj => by
          subst hi
          have := getL_ix (xs := tabI t (row0 g 1)) (i := (j : Int)) (by omega) (by omega)
          rw [row0_tab ht g 1 j (by omega)] at this
          refine ⟨this, ?_⟩
          rw [← row0_tab ht g 1 j (by omega)]
          exact bb _ (ix_mem (by omega) (by omega))
        obtain ⟨a1, b1⟩ := gi (p + 1) (1 + (p : Int)) (by omega) (by omega)
        obtain ⟨a2, b2⟩ := gi q (1 + (q : Int) - 1) (by omega) (by omega)
        obtain ⟨a3, b3⟩ := gi (q + 1) (1 + (q : Int)) (by omega) (by omega)
        obtain ⟨a4, b4⟩ := gi p (1 + (p : Int) - 1) (by omega) (by omega)
        rw [show ((p + 1 : Nat) : Int) - 1 = (p : Int) by omega] at a1 b1
        rw [show ((q + 1 : Nat) : Int) - 1 = (q : Int) by omega] at a3 b3
        simp [S_stays_with_e1, lisD, a1, a2, a3, a4, bmul b1 b2, bmul b3 b4, cndAt]⟩⟩)
    have al : bi "all" [.list ((List.range (g.length + 1)).flatMap fun q => (List.range q).map fun p => .bool (cndAt t g p q))] = pure (.bool (condB t g (g.length + 1))) := by
      have e : ((List.range (g.length + 1)).flatMap fun q => (List.range q).map fun p => PyData.bool (cndAt t g p q)) = ((List.range (g.length + 1)).flatMap fun q => (List.range q).map fun p => cndAt t g p q).map PyData.bool := by
        rw [List.map_flatMap]
        congr 1
        funext q
        rw [List.map_map]
        rfl
      rw [e, bi_all (boolsOf_map _), flat_all]
      rfl
    have q0 := q0 t
    have q1 := q1 t ht
    have isl : isL (lisD (row0 g 1)) = true := rfl
    simp at cp
    simp only [lisD] at ad2 t1 t2 gd cp
    simp [startN, callS, c1, q0, tupS, sline, q1, lstS, biS, ad1, ad2, isL, t1, t2, dct, gd, rl, iterS, r1, cp, al]
  · unfold S_stays_with
    rw [runS_2]
    have e := h1 y hy
    rw [hf] at e
    simp at e
    simp [startN, callS, e, mal28]
  · unfold S_stays_with
    rw [runS_2]
    have c1 := h1 (tupD [1]) (by simp)
    rw [show isDraw (tupD [1]) = true by decide +kernel, if_pos rfl] at c1
    simp only [strange28, List.mem_cons, List.mem_nil_iff, or_false] at hx
    have n1 : ∀ x ∈ ([.str "", .str "st", .str "mrl"] : List D), inD x (.tuple [.str "lr", .str "hr", .str "rh"]) = pure false := fun x hx => by
      simp only [List.mem_cons, List.mem_nil_iff, or_false] at hx
      rcases hx with rfl | rfl | rfl <;> kernel_rfl
    have m1 := n1 (.str "") (by simp)
    have m2 := n1 (.str "st") (by simp)
    have m3 := n1 (.str "mrl") (by simp)
    rcases hx with rfl | rfl | rfl | rfl | rfl | rfl <;> simp [startN, callS, c1, mal28, tupS, sline, m1, m2, m3]
end Py

set_option Elab.async false
set_option linter.all false
set_option maxRecDepth 100000
namespace Py
open PySem
def Sp__law_condition (f : List D → M D) : Prop := ∀ (t : TW) (g : List Int), lhr t → IsDr g → f [t.D, tupD g] = pure (.bool (condB t g (g.length + 2)))
theorem cond_body {call : Str → List D → M D} {w : Nat} {t : TW} {g : List Int} (ht : lhr t) (hg : IsDr g) (o : Bool) (z : Sl) (q : Nat) (hq : q < g.length + 2) :
    S__law_condition_b2 call w [some (t.D, false), some (tupD g, false), some (lisD (tabI t (row0 g 2)), o), some (.int (1 + (q : Int)), false), z] = if ((List.range q).all fun p => cndAt t g p q) = true then pure (.nx [some (t.D, false), some (tupD g, false), some (lisD (tabI t (row0 g 2)), o), some (.int (1 + (q : Int)), false), z]) else pure (.ret (.bool false) false) := by
  have lg := hg.most
  have r2 : iterC "range" [.int 1, .int (1 + (q : Int))] = pure ((List.range q).map fun (i : Nat) => PyData.int (1 + (i : Int))) := by
    rw [range2 (by decide) (by decide) (by omega) (by omega), show (1 + (q : Int) - 1).toNat = q by omega]
  have bb := tab_bt ht hg 2 (by decide)
  have rl : (tabI t (row0 g 2)).length = g.length + 3 := by rw [tabI_len, row0_len]
  have gi : ∀ (j : Nat) (i : Int), i = (j : Int) → j < g.length + 3 → getD' (.list ((tabI t (row0 g 2)).map .int)) (.int i) = pure (.int (kerT t g ((j : Int) - 1))) ∧ Bt 40 (kerT t g ((j : Int) - 1)) := fun j i hi hj => by
    subst hi
    have := getL_ix (xs := tabI t (row0 g 2)) (i := (j : Int)) (by omega) (by omega)
    rw [row0_tab ht g 2 j (by omega)] at this
    refine ⟨this, ?_⟩
    rw [← row0_tab ht g 2 j (by omega)]
    exact bb _ (ix_mem (by omega) (by omega))
  have cf := compS_filter (items := pure ((List.range q).map fun (i : Nat) => PyData.int (1 + (i : Int)))) (bind := fun d => bindG (.one 4) (wipe [some (t.D, false), some (tupD g, false), some (lisD (tabI t (row0 g 2)), o), some (.int (1 + (q : Int)), false), z] [4]) d) (f := S__law_condition_i0 call w) (g := S__law_condition_e1 call w) (List.range q) (fun (i : Nat) => PyData.int (1 + (i : Int))) (fun (i : Nat) => .int (1 + (i : Int))) (fun p => !cndAt t g p q) rfl (sl (by simp; omega)) fun p hp => ⟨_, rfl, by
    have hp := List.mem_range.mp hp
    obtain ⟨a1, b1⟩ := gi (p + 1) (1 + (p : Int)) (by omega) (by omega)
    obtain ⟨a2, b2⟩ := gi q (1 + (q : Int) - 1) (by omega) (by omega)
    obtain ⟨a3, b3⟩ := gi (q + 1) (1 + (q : Int)) (by omega) (by omega)
    obtain ⟨a4, b4⟩ := gi p (1 + (p : Int) - 1) (by omega) (by omega)
    rw [show ((p + 1 : Nat) : Int) - 1 = (p : Int) by omega] at a1 b1
    rw [show ((q + 1 : Nat) : Int) - 1 = (q : Int) by omega] at a3 b3
    simp [S__law_condition_i0, lisD, a1, a2, a3, a4, bmul b1 b2, bmul b3 b4, cndAt], fun _ => by simp [S__law_condition_e1]⟩
  have hq : eqD (.list (((List.range q).filter fun p => !cndAt t g p q).map fun (i : Nat) => .int (1 + (i : Int)))) (.list []) = pure ((List.range q).all fun p => cndAt t g p q) := by
    have := eqD_filt (fun (i : Nat) => 1 + (i : Int)) (fun p => !cndAt t g p q) (List.range q)
    simpa using this
  simp at cf
  cases hb : (List.range q).all fun p => cndAt t g p q with
  | true =>
    rw [hb] at hq
    simp [S__law_condition_b2, iterS, r2, cf, lstS, sline, hq]
  | false =>
    rw [hb] at hq
    simp [S__law_condition_b2, iterS, r2, cf, lstS, sline, hq]
theorem s__law_condition {call : Str → List D → M D} {w : Nat} (h2 : Sp__law_tails (call "_law_tails")) (h3 : Sp__law_heads (call "_law_heads")) : Sp__law_condition (S__law_condition call w) := by
  intro t g ht hg
  have lg := hg.most
  unfold S__law_condition
  rw [runS_2]
  have q2 : ∀ t : TW, eqD t.D (.str "rh") = pure (decide (t = .rh)) := fun t => by cases t <;> kernel_rfl
  have q3 : ∀ t : TW, eqD t.D (.str "hr") = pure (decide (t = .hr)) := fun t => by cases t <;> kernel_rfl
  have ad1 : binop .Add (.list [.int 0]) (.list (g.map .int)) = pure (.list (.int 0 :: g.map .int)) := binop_addL (sl (by simp; omega))
  have ad2 : binop .Add (.list (.int 0 :: g.map .int)) (.list [.int 0, .int 0]) = pure (lisD (row0 g 2)) := by
    rw [binop_addL (sl (by simp; omega))]
    simp [row0, lisD]
  have t1 := h2 (row0 g 2) (by rw [row0_len]; omega)
  have t2 := h3 (row0 g 2) (by rw [row0_len]; omega)
  have rl : ∀ t, (tabI t (row0 g 2)).length = g.length + 3 := fun t => by rw [tabI_len, row0_len]
  have r1 : iterC "range" [.int 1, .int ((g.length : Int) + 3)] = pure ((List.range (g.length + 2)).map fun (i : Nat) => PyData.int (1 + (i : Int))) := by
    rw [range2 (by decide) (by decide) (by omega) (by omega), show ((g.length : Int) + 3 - 1).toNat = g.length + 2 by omega]
  have lp : ∀ o : Bool, ∃ v' : Sl × Sl, forL (bindG (.one 3)) (S__law_condition_b2 call w) ((List.range (g.length + 2)).map fun (i : Nat) => PyData.int (1 + (i : Int))) [some (t.D, false), some (tupD g, false), some (lisD (tabI t (row0 g 2)), o), none, none] = pure (if condB t g (g.length + 2) = true then .nx [some (t.D, false), some (tupD g, false), some (lisD (tabI t (row0 g 2)), o), v'.1, v'.2] else .ret (.bool false) false) := fun o => by
    rcases forL_findG (enc := fun (i : Nat) => PyData.int (1 + (i : Int))) (bind := bindG (.one 3)) (b := S__law_condition_b2 call w) (fun q => !((List.range q).all fun p => cndAt t g p q)) (fun _ => (.bool false, false)) (fun v : Sl × Sl => [some (t.D, false), some (tupD g, false), some (lisD (tabI t (row0 g 2)), o), v.1, v.2]) (List.range (g.length + 2)) (fun q hq v => by
      have hq := List.mem_range.mp hq
      have e := cond_body (call := call) (w := w) ht hg o v.2 q hq
      refine ⟨_, rfl, fun hf => ?_, fun hf => ⟨(some (.int (1 + (q : Int)), false), v.2), ?_⟩⟩
      · rw [if_neg (by simpa using hf)] at e
        exact e
      · rw [if_pos (by simpa using hf)] at e
        exact e) (none, none) with ⟨q, hq, e⟩ | ⟨hq, v', e⟩
    · refine ⟨(none, none), ?_⟩
      have h1 := List.find?_some hq
      have h2 := List.mem_of_find?_eq_some hq
      have hb : ¬ condB t g (g.length + 2) = true := fun hc => by
        unfold condB at hc
        have := List.all_eq_true.mp hc q h2
        rw [this] at h1
        cases h1
      rw [if_neg hb]
      exact e
    · refine ⟨v', ?_⟩
      have hb : condB t g (g.length + 2) = true := by
        unfold condB
        rw [List.all_eq_true]
        intro q hq2
        have := List.find?_eq_none.mp hq q hq2
        simpa using this
      rw [if_pos hb]
      exact e
  obtain ⟨v1, l1⟩ := lp true
  obtain ⟨v2, l2⟩ := lp false
  have lx := rl t
  have qq2 := q2 t
  have qq3 := q3 t
  rcases ht with rfl | rfl | rfl
  · simp only [tabI, lisD] at l1 lx ad2
    simp at l1 qq2 qq3
    cases hb : condB .lr g (g.length + 2) <;> rw [hb] at l1 <;> simp at l1 <;> simp [startN, biS, lstS, sline, ad1, ad2, isL, qq2, qq3, iterS, lx, r1, l1]
  · simp only [tabI, lisD] at l2 lx ad2 t1
    simp at l2 qq2 qq3
    cases hb : condB .hr g (g.length + 2) <;> rw [hb] at l2 <;> simp at l2 <;> simp [startN, biS, lstS, sline, ad1, ad2, isL, qq2, qq3, callS, t1, iterS, lx, r1, l2]
  · simp only [tabI, lisD] at l2 lx ad2 t2
    simp at l2 qq2 qq3
    cases hb : condB .rh g (g.length + 2) <;> rw [hb] at l2 <;> simp at l2 <;> simp [startN, biS, lstS, sline, ad1, ad2, isL, qq2, qq3, callS, t2, iterS, lx, r1, l2]
def Sp__law_even (f : List D → M D) : Prop := ∀ s : DS, OkS s → (f [tok] s).sat fun d s' => ∃ g : List Int, d = tupD g ∧ IsDr g ∧ g.length ≤ 7 ∧ (∀ x ∈ g, x ≤ 1024) ∧ OkS s'
theorem s__law_even {call : Str → List D → M D} {w : Nat} (ht : call "_law_take" = takeP) : Sp__law_even (S__law_even call w) := by
  intro s hs
  unfold S__law_even
  rw [runS_1]
  have a0 := tv_lo (n := 4) (s := s) (by decide)
  have a1 := tv_hi (n := 4) (s := s) (by decide)
  have hs1 := OkS_ts (n := 4) hs
  have b0 := tv_lo (n := 4) (s := ts 4 s) (by decide)
  have b1 := tv_hi (n := 4) (s := ts 4 s) (by decide)
  have hs2 := OkS_ts (n := 4) hs1
  have c0 := tv_lo (n := 5) (s := ts 4 (ts 4 s)) (by decide)
  have c1 := tv_hi (n := 5) (s := ts 4 (ts 4 s)) (by decide)
  have hs3 := OkS_ts (n := 5) hs2
  have hr := range0 (n := tv 5 (ts 4 (ts 4 s))) (by omega) (by omega)
  have lp := forL_at (fun (i : Nat) => PyData.int (0 + (i : Int))) (bind := bindG (.one 3)) (b := S__law_even_b0 call w) (List.range (tv 5 (ts 4 (ts 4 s))).toNat)
    (fun k σ s => OkS s ∧ ∃ (xs : List Int) (r : Int) (v : Sl), σ = [some (tok, false), some (.list (xs.map .int), true), some (.int r, false), v] ∧ xs.length = k + 1 ∧ 1 ≤ r ∧ r ≤ 4 ∧ ∀ x ∈ xs, 1 ≤ x ∧ x ≤ 4 ^ (k + 1))
    (fun k x σ s hk ⟨hs, xs, r, v, e1, e2, e3, e4, e5⟩ => by
      subst e1
      have hk5 : k < 4 := by
        have := (List.getElem?_eq_some_iff.mp hk).1
        simp at this
        omega
      obtain ⟨ys, u, rfl⟩ := snoc_of (by omega : 1 ≤ xs.length)
      have hu := e5 u (by simp)
      have t0 := tv_lo (n := 2) (s := s) (by decide)
      have t1 := tv_hi (n := 2) (s := s) (by decide)
      have hs' := OkS_ts (n := 2) hs
      refine ⟨_, rfl, ?_⟩
      have hmax : max 1 (r - tv 2 s) ≤ 4 ∧ 1 ≤ max 1 (r - tv 2 s) := by omega
      generalize hR : max 1 (r - tv 2 s) = R at *
      have p4 : (4 : Int) ^ (k + 1) ≤ 4 ^ 4 := by
        have : k = 0 ∨ k = 1 ∨ k = 2 ∨ k = 3 := by omega
        rcases this with rfl | rfl | rfl | rfl <;> decide
      have bu : Bt 20 u := Bt.of_lt (by omega) (by
        have : (4 : Int) ^ 4 = 256 := by decide
        have : (2 : Int) ^ 20 = 1048576 := by decide
        omega)
      have bR : Bt 20 R := Bt.of_lt (by omega) (by
        have : (2 : Int) ^ 20 = 1048576 := by decide
        omega)
      have mm := bmul bu bR
      simp at e2
      have sl1 : ys.length + 1 < sline := sl' (by omega)
      simp [S__law_even_b0, bd_at, stE_at, thenF_at, quiet_at, ifeS, tstS, cmp1, cmp2, binS, ixS, slS, optS, biS, callS, lstS, tupS, iterS, evsS_cons, asBool, asInt, sFor, sAsg, sIf, sRet, sExp, sTup, negS, notS, andS, orS, callF_eq, take_T ht hs, hR, sApp, ownI, mm, sl1]
      refine ⟨hs', ys ++ [u, u * R], R, by simp, by simp [e2], hmax.2, hmax.1, fun y hy => ?_⟩
      have e6 : (4 : Int) ^ (k + 1 + 1) = 4 ^ (k + 1) * 4 := Int.pow_succ ..
      have uR1 : u * R ≤ 4 ^ (k + 1) * 4 := Int.mul_le_mul hu.2 hmax.1 (by omega) (by omega)
      have uR0 : 1 ≤ u * R := by
        have := Int.mul_le_mul (a := 1) (b := 1) hu.1 hmax.2 (by omega) (by omega)
        omega
      rw [e6]
      simp at hy
      rcases hy with hy | rfl | rfl
      · have := e5 y (by simp [hy])
        omega
      · omega
      · omega)
    (σ := [some (tok, false), some (.list [.int (1 + tv 4 s)], true), some (.int (1 + tv 4 (ts 4 s)), false), none]) (s := ts 5 (ts 4 (ts 4 s))) ⟨hs3, [1 + tv 4 s], 1 + tv 4 (ts 4 s), none, rfl, rfl, by omega, by omega, fun x hx => by simp at hx; subst hx; simp; omega⟩
  obtain ⟨fl, s4, e, h⟩ := lp.ex
  cases fl with
  | nx σ' =>
    obtain ⟨hs4, xs, r, v, rfl, e2, _, _, e5⟩ := h
    simp at e2
    have d0 := tv_lo (n := 3) (s := s4) (by decide)
    have d1 := tv_hi (n := 3) (s := s4) (by decide)
    have hs5 := OkS_ts (n := 3) hs4
    have hz : binop .Mult (.list [.int 0]) (.int (tv 3 s4)) = pure (.list (List.replicate (tv 3 s4).toNat (.int 0))) := by
      rw [binop_mulL (by omega) (by omega)]
      try simp
    have ad : binop .Add (.list (List.replicate (tv 3 s4).toNat (.int 0))) (.list (xs.map .int)) = pure (lisD (List.replicate (tv 3 s4).toNat 0 ++ xs)) := by
      rw [binop_addL (sl (by simp; omega))]
      simp [lisD]
    have p5 : (4 : Int) ^ ((tv 5 (ts 4 (ts 4 s))).toNat + 1) ≤ 1024 := by
      have : (tv 5 (ts 4 (ts 4 s))).toNat = 0 ∨ (tv 5 (ts 4 (ts 4 s))).toNat = 1 ∨ (tv 5 (ts 4 (ts 4 s))).toNat = 2 ∨ (tv 5 (ts 4 (ts 4 s))).toNat = 3 ∨ (tv 5 (ts 4 (ts 4 s))).toNat = 4 := by omega
      rcases this with h | h | h | h | h <;> rw [h] <;> decide
    simp at e
    simp [startN, bd_at, stE_at, thenF_at, quiet_at, ifeS, tstS, cmp1, cmp2, binS, ixS, slS, optS, biS, callS, lstS, tupS, iterS, evsS_cons, asBool, asInt, sFor, sAsg, sIf, sRet, sExp, sTup, negS, notS, andS, orS, callF_eq, take_T ht hs, take_T ht hs1, take_T ht hs2, sline, isL, hr, e, take_T ht hs4, hz, ad]
    simp at e5
    refine ⟨List.replicate (tv 3 s4).toNat 0 ++ xs, by simp, ⟨by simp; omega, by simp; omega, fun x hx => ?_, ?_⟩, by simp; omega, fun x hx => ?_, hs5⟩
    · rcases List.mem_append.mp hx with hx | hx
      · rw [List.eq_of_mem_replicate hx]; decide
      · have := e5 x hx; omega
    · obtain ⟨ys, z, rfl⟩ := snoc_of (by omega : 1 ≤ xs.length)
      refine ⟨z, by simp, ?_⟩
      have := e5 z (by simp)
      omega
    · rcases List.mem_append.mp hx with hx | hx
      · rw [List.eq_of_mem_replicate hx]; decide
      · have := e5 x hx; omega
  | _ => exact h.elim
def Sp__law_malformed28 (f : List D → M D) : Prop := (∀ y : D, nod y = true → isDraw y = false → f [.str "lr", y] = pure (.bool true)) ∧ ∀ x ∈ strange28, f [x, tupD [1]] = pure (.bool true)
theorem s__law_malformed28 {call : Str → List D → M D} {w : Nat} (h1 : Sp_stays_with (call "stays_with")) : Sp__law_malformed28 (S__law_malformed call w) := by
  refine ⟨fun y hy hf => ?_, fun x hx => ?_⟩ <;> unfold S__law_malformed <;> rw [runS_2]
  · simp [startN, callS, h1.2.1 (.str "lr") y hy hf, mal28]
    rw [catch_rz (.bool true) (by decide +kernel) (by simp) rfl (by kernel_rfl)]
    simp
  · simp [startN, callS, h1.2.2 x hx, mal28]
    rw [catch_rz (.bool true) (by decide +kernel) (by simp) rfl (by kernel_rfl)]
    simp
end Py

set_option Elab.async false
set_option linter.all false
set_option maxRecDepth 100000
namespace Py
open PySem
def S_law_k0 (call : Str → List D → M D) (w : Nat) (σ : St) : M Flow :=
  thenF (sIf σ (andS [(rdV σ 5), (callS call ("_law_at_most" : Str) [(rdV σ 7), (rdV σ 8), (rdV σ 2)])])
  (thenF (sIf σ (notS (callS call ("_law_at_most" : Str) [(callS call ("_law_done" : Str) [(pure (.str "sum")), (rdV σ 7), (rdV σ 4)]), (callS call ("_law_done" : Str) [(pure (.str "sum")), (rdV σ 8), (rdV σ 4)]), (rdV σ 2)]))
    (thenF (sRet (frz σ [0, 1, 2, 3, 4, 5, 6, 7, 8]) (pure (.bool false)) false) fun σ =>
      sEnd σ)
    (sEnd σ)) fun σ =>
    sEnd σ)
  (sEnd σ)) fun σ =>
  sEnd σ
def S_law_b1 (call : Str → List D → M D) (w : Nat) (σ : St) : M Flow :=
  thenF (sTup (frz σ [1]) (callS call ("_law_pair" : Str) [(rdV (frz σ [1]) 1), (pure (.int 5)), (pure (.int 3))]) (.many [7, 8])) (S_law_k0 call w)
def S_law_k2 (call : Str → List D → M D) (w : Nat) (σ : St) : M Flow :=
  thenF (sFor σ (iterS ("range" : Str) [(pure (.int 4))]) (.one 6) (S_law_b1 call w)) fun σ =>
  sEnd σ
def S_law_k3 (call : Str → List D → M D) (w : Nat) (σ : St) : M Flow :=
  thenF (sIf σ (cmp1 (callS call ("_law_at_most" : Str) [(callS call ("_law_done" : Str) [(pure (.str "sum")), (tupS [(pure (.int 1))]), (rdV σ 4)]), (callS call ("_law_done" : Str) [(pure (.str "sum")), (tupS [(pure (.int 0)), (pure (.int 1))]), (rdV σ 4)]), (rdV σ 2)]) (rd σ 5) .NotEq)
  (thenF (sRet (frz σ [0, 1, 2, 3, 4, 5, 6, 7, 8]) (pure (.bool false)) false) fun σ =>
    sEnd σ)
  (sEnd σ)) (S_law_k2 call w)
def S_law_k4 (call : Str → List D → M D) (w : Nat) (σ : St) : M Flow :=
  thenF (sIf σ (orS [(notS (isiS (rd σ 5) ("bool" : Str))), (cmp1 (rd σ 5) (callS call ("_law_condition" : Str) [(rdV σ 2), (rdV σ 4)]) .NotEq)])
  (thenF (sRet (frz σ [0, 1, 2, 3, 4, 5, 6, 7, 8]) (pure (.bool false)) false) fun σ =>
    sEnd σ)
  (sEnd σ)) (S_law_k3 call w)
def S_law_k5 (call : Str → List D → M D) (w : Nat) (σ : St) : M Flow :=
  thenF (sAsg (frz σ [2, 4]) (callS call ("stays_with" : Str) [(rdV (frz σ [2, 4]) 2), (rdV (frz σ [2, 4]) 4)]) 5 false) (S_law_k4 call w)
def S_law_b6 (call : Str → List D → M D) (w : Nat) (σ : St) : M Flow :=
  thenF (sAsg (frz σ [1, 1]) (ifeS (cmp1 (callF call ("_law_take" : Str) [(rd (frz σ [1, 1]) 1), (pure (.int 2))]) (pure (.int 0)) .Eq) (callS call ("_law_even" : Str) [(rdV (frz σ [1, 1]) 1)]) (callS call ("_law_dice" : Str) [(rdV (frz σ [1, 1]) 1), (pure (.int 5)), (pure (.int 3))])) 4 false) (S_law_k5 call w)
def S_law_k7 (call : Str → List D → M D) (w : Nat) (σ : St) : M Flow :=
  thenF (sRet (frz σ [0, 1, 2, 3, 4, 5, 6, 7, 8]) (andS [(callS call ("_law_malformed" : Str) [(pure (.str "lr")), (rdV (frz σ [0, 1, 2, 3, 4, 5, 6, 7, 8]) 3)]), (callS call ("_law_malformed" : Str) [(ixS (lstS [(pure (.none)), (pure (.str "")), (pure (.str "st")), (pure (.str "mrl")), (pure (.int 0)), (tupS [(pure (.str "lr"))])]) (callF call ("_law_take" : Str) [(rd (frz σ [0, 1, 2, 3, 4, 5, 6, 7, 8]) 1), (pure (.int 6))])), (tupS [(pure (.int 1))])])]) false) fun σ =>
  sEnd σ
def S_law_k8 (call : Str → List D → M D) (w : Nat) (σ : St) : M Flow :=
  thenF (sAsg (frz σ [1, 7]) (callS call ("_law_bad_dice" : Str) [(rdV (frz σ [1, 7]) 1), (rdV (frz σ [1, 7]) 7)]) 3 false) (S_law_k7 call w)
def nLaw : List Str := ["script", "draw", "word", "bad", "other", "said", "turn", "one", "two"]
def S_law (call : Str → List D → M D) (w : Nat) (σ : St) : M Flow :=
  thenF (sFor σ (dataI (lstS [(pure (.str "lr")), (pure (.str "hr")), (pure (.str "rh"))])) (.one 2) (S_law_b6 call w)) (S_law_k8 call w)
theorem strp_lastZ {c : List Int} (hc : ∃ x ∈ c, x ≠ 0) : ∃ ys z, strp c = ys ++ [z] ∧ z ≠ 0 := by
  obtain ⟨m, hm⟩ := strp_pre c
  suffices h : ∀ (n : Nat) (c : List Int), c.length = n → (∃ x ∈ c, x ≠ 0) → ∃ ys z, strp c = ys ++ [z] ∧ z ≠ 0 from h _ c rfl hc
  intro n
  induction n with
  | zero =>
    intro c hl ⟨x, hx, _⟩
    rw [List.length_eq_zero_iff.mp hl] at hx
    cases hx
  | succ n ih =>
    intro c hl hx
    obtain ⟨ys, z, rfl⟩ := snoc_of (xs := c) (by omega)
    by_cases hz : z = 0
    · subst hz
      rw [strp_snoc0]
      refine ih ys (by simpa using hl) ?_
      obtain ⟨x, hx, h0⟩ := hx
      rcases List.mem_append.mp hx with hx | hx
      · exact ⟨x, hx, h0⟩
      · simp at hx; exact absurd hx h0
    · exact ⟨ys, z, strp_snoc hz, hz⟩
theorem low_dr {c : List Int} (hn : ∀ x ∈ c, 0 ≤ x) (hp : ∃ x ∈ c, 0 < x) (hl : c.length ≤ 30) (hm : ∀ x ∈ c, x ≤ 1000000) : IsDr (lowI c) ∧ endD c = tupD (lowI c) := by
  obtain ⟨x0, hx0, p0⟩ := hp
  obtain ⟨ys, z, he, hz⟩ := strp_lastZ ⟨x0, hx0, by omega⟩
  obtain ⟨m, hpre⟩ := strp_pre c
  have hls : (strp c).length ≤ 30 := by
    have := congrArg List.length hpre
    rw [List.length_append] at this
    omega
  obtain ⟨G0, _⟩ := gcdL_pos (xs := strp c) ⟨x0, mem_strp hx0 (by omega), p0⟩
  have G1 : (1 : Int) ≤ (gcdL (strp c) : Int) := by omega
  have hw : ∀ x ∈ lowI c, 0 ≤ x ∧ x ≤ 1000000 := fun x hx => by
    unfold lowI at hx
    obtain ⟨y, hy, rfl⟩ := List.mem_map.mp hx
    have y0 := hn y (strp_mem hy)
    have y1 := hm y (strp_mem hy)
    have h1 : y / (gcdL (strp c) : Int) ≤ y := Int.ediv_le_self _ y0
    have h2 : 0 ≤ y / (gcdL (strp c) : Int) := Int.ediv_nonneg y0 (by omega)
    omega
  have hll : (lowI c).length = (strp c).length := by unfold lowI; rw [List.length_map]
  have h1 : 1 ≤ (lowI c).length := by rw [hll, he]; simp
  have dr : IsDr (lowI c) := by
    refine ⟨h1, by omega, hw, ?_⟩
    refine ⟨z / (gcdL (strp c) : Int), by unfold lowI; rw [he]; simp, ?_⟩
    have zm : z ∈ strp c := by rw [he]; simp
    have z0 := hn z (strp_mem zm)
    have hd : ((gcdL (strp c) : Nat) : Int) ∣ z := by
      have := Int.natCast_dvd_natCast.mpr ((gcdF_dvd (strp c) 0).2 _ zm)
      rw [Int.toNat_of_nonneg z0] at this
      exact this
    obtain ⟨q, hq⟩ := hd
    rw [hq, Int.mul_ediv_cancel_left _ (by omega)]
    by_cases q0 : q ≤ 0
    · have := Int.mul_nonpos_of_nonneg_of_nonpos (a := (gcdL (strp c) : Int)) (by omega) q0
      omega
    · omega
  refine ⟨dr, ?_⟩
  unfold endD
  rw [if_neg (by omega), if_pos (hw _ (maxI_in h1)).2]
theorem sumR_cap {n : Nat} {f : Nat → Int} {c : Int} (h : ∀ i, i < n → f i ≤ c) : sumR n f ≤ (n : Int) * c := by
  induction n with
  | zero => simp
  | succ n ih =>
    rw [sumR_back]
    have h1 := ih fun i hi => h i (by omega)
    have h2 := h n (by omega)
    have h3 : ((n + 1 : Nat) : Int) * c = (n : Int) * c + c := by
      rw [Int.natCast_add, Int.add_mul]; simp
    omega
theorem gz_cap {g : List Int} {G : Int} (hG0 : 0 ≤ G) (hG : ∀ x ∈ g, x ≤ G) (k : Int) : gz g k ≤ G := by
  unfold gz
  split
  · by_cases h : k.toNat < g.length
    · exact hG _ (ix_mem (by omega) (by omega))
    · rw [ix_overN (by omega)]; exact hG0
  · exact hG0
theorem cnv_cap {a g : List Int} (ha : ∀ x ∈ a, 0 ≤ x) (hg : ∀ x ∈ g, 0 ≤ x) {A G : Int} (hA0 : 0 ≤ A) (hG0 : 0 ≤ G) (hA : ∀ x ∈ a, x ≤ A) (hG : ∀ x ∈ g, x ≤ G) : ∀ x ∈ cnv a g, x ≤ (a.length : Int) * (A * G) := by
  intro x hx
  obtain ⟨n, hn, rfl⟩ := List.mem_iff_getElem.mp hx
  have e := cnv_ix a g n
  have e2 : ix (cnv a g) n = (cnv a g)[n] := by
    unfold ix
    rw [List.getD_eq_getElem?_getD, Int.toNat_natCast, List.getElem?_eq_getElem hn]
    rfl
  rw [← e2, e]
  unfold Fz
  refine sumR_cap fun i hi => ?_
  have i1 : ix a i ≤ A := hA _ (ix_mem (by omega) (by omega))
  exact Int.mul_le_mul i1 (gz_cap hG0 hG _) (gz_nn hg _) hA0
theorem cnv_ok {a g : List Int} (ha : IsDr a) (hg : IsDr g) (hl : a.length ≤ 5) (hl2 : g.length ≤ 7) (hA : ∀ x ∈ a, x ≤ 9) (hG : ∀ x ∈ g, x ≤ 1024) : IsDr (lowI (cnv a g)) ∧ endD (rowI a g .sum) = tupD (lowI (cnv a g)) := by
  obtain ⟨p1, p2, p3⟩ := rowI_pos ha .sum hg
  refine low_dr (fun x hx => (p1 x hx).1) p3 (by rw [cnv_len]; omega) fun x hx => ?_
  have := cnv_cap (fun x hx => (ha.wt x hx).1) (fun x hx => (hg.wt x hx).1) (A := 9) (G := 1024) (by decide) (by decide) hA hG x hx
  omega
theorem dr1 : IsDr [1] := ⟨by decide, by decide, by decide, 1, rfl, by decide⟩
theorem dr01 : IsDr [0, 1] := ⟨by decide, by decide, by decide, 1, rfl, by decide⟩
theorem lhr_ne {t : TW} (ht : lhr t) : t ≠ .hmrl := by rcases ht with rfl | rfl | rfl <;> decide
theorem gcd_of {a g : List Int} (ha : IsDr a) (hg : IsDr g) : 0 < (gcdL (strp (cnv a g)) : Int) := by
  obtain ⟨p1, p2, x0, hx0, p0⟩ := rowI_pos ha .sum hg
  obtain ⟨G0, _⟩ := gcdL_pos (xs := strp (cnv a g)) ⟨x0, mem_strp hx0 (by omega), p0⟩
  omega
theorem low_leT {t : TW} (ht : lhr t) {a b g : List Int} (ha : IsDr a) (hb : IsDr b) (hg : IsDr g) : leT t (lowI (cnv a g)) (lowI (cnv b g)) ↔ leT t (cnv a g) (cnv b g) :=
  leT_scale ht (gcd_of ha hg) (gcd_of hb hg) (low_ix _ fun x hx => ((rowI_pos ha .sum hg).1 x hx).1) (low_ix _ fun x hx => ((rowI_pos hb .sum hg).1 x hx).1)
theorem ones_val {t : TW} (ht : lhr t) {g : List Int} (hg : IsDr g) (hl : g.length ≤ 7) (hG : ∀ x ∈ g, x ≤ 1024) : (!failT t (xr (lowI (cnv [1] g)) (lowI (cnv [0, 1] g))) (yr (lowI (cnv [1] g)) (lowI (cnv [0, 1] g)))) = condB t g (g.length + 2) := by
  have g0 : ∀ x ∈ g, 0 ≤ x := fun x hx => (hg.wt x hx).1
  have d1 := (cnv_ok dr1 hg (by decide) hl (by decide) hG).1
  have d2 := (cnv_ok dr01 hg (by decide) hl (by decide) hG).1
  have h1 := fail_leT ht d1 d2
  rw [low_leT ht dr1 dr01 hg, ones_le ht g0, ← cond_pf ht g0 (L := g.length + 2) (by omega), ← condB_iff] at h1
  cases hf : failT t (xr (lowI (cnv [1] g)) (lowI (cnv [0, 1] g))) (yr (lowI (cnv [1] g)) (lowI (cnv [0, 1] g))) <;> cases hc : condB t g (g.length + 2) <;> rw [hf, hc] at h1 <;> simp at h1 ⊢
theorem keep_val {t : TW} (ht : lhr t) {a b g : List Int} (ha : IsDr a) (hb : IsDr b) (hg : IsDr g) (hla : a.length ≤ 5) (hlb : b.length ≤ 5) (hl : g.length ≤ 7) (hA : ∀ x ∈ a, x ≤ 9) (hB : ∀ x ∈ b, x ≤ 9) (hG : ∀ x ∈ g, x ≤ 1024) (hc : condB t g (g.length + 2) = true) (hf : failT t (xr a b) (yr a b) = false) : failT t (xr (lowI (cnv a g)) (lowI (cnv b g))) (yr (lowI (cnv a g)) (lowI (cnv b g))) = false := by
  have g0 : ∀ x ∈ g, 0 ≤ x := fun x hx => (hg.wt x hx).1
  have d1 := (cnv_ok ha hg hla hl hA hG).1
  have d2 := (cnv_ok hb hg hlb hl hB hG).1
  rw [condB_iff, cond_pf ht g0 (by omega)] at hc
  rw [fail_leT ht ha hb] at hf
  rw [fail_leT ht d1 d2, low_leT ht ha hb hg]
  exact stays_le ht (fun x hx => (ha.wt x hx).1) (fun x hx => (hb.wt x hx).1) g0 hc hf
theorem said_eq {t : TW} (ht : lhr t) {g : List Int} (hg : IsDr g) : condB t g (g.length + 1) = condB t g (g.length + 2) := by
  have g0 : ∀ x ∈ g, 0 ≤ x := fun x hx => (hg.wt x hx).1
  rw [Bool.eq_iff_iff, condB_iff, condB_iff]
  exact cond_ext ht g0 (by omega) (by omega)
def st28 (t : TW) (g : List Int) (a6 a7 a8 : Sl) : St := [none, some (tok, false), some (t.D, false), none, some (tupD g, false), some (.bool (condB t g (g.length + 2)), false), a6, a7, a8]
def T28 (t : TW) (g : List Int) (k : Nat) (σ : St) (s : DS) : Prop := OkS s ∧ ∃ a6 a7 a8 : Sl, σ = st28 t g a6 a7 a8 ∧ (k = 0 ∨ ∃ a, IsDr a ∧ a7 = some (tupD a, false))
def W28 (k : Nat) (σ : St) (s : DS) : Prop := OkS s ∧ ∃ a2 a4 a5 a6 a7 a8 : Sl, σ = [none, some (tok, false), a2, none, a4, a5, a6, a7, a8] ∧ (k = 0 ∨ ∃ a, IsDr a ∧ a7 = some (tupD a, false))
section
variable {call : Str → List D → M D} {w : Nat}
theorem turn28 (hp : Sp__law_pairB (call "_law_pair")) (h0 : Sp__law_at_most (call "_law_at_most")) (hd : Sp__law_done (call "_law_done")) {t : TW} {g : List Int} (ht : lhr t) (hg : IsDr g) (hl : g.length ≤ 7) (hG : ∀ x ∈ g, x ≤ 1024) (k : Nat) (a6 a7 a8 : Sl) {s : DS} (hs : OkS s) :
    (S_law_b1 call w (st28 t g a6 a7 a8) s).sat (NC (T28 t g (k + 1))) := by
  obtain ⟨d, s2, e2, a, b, rfl, ha, hb, hla, hlb, hA, hB, hs2⟩ := (hp 5 3 _ hs (by decide) (by decide) (by decide) (by decide)).ex
  have hla : a.length ≤ 5 := by omega
  have hlb : b.length ≤ 5 := by omega
  have hA : ∀ x ∈ a, x ≤ 9 := fun x hx => by have := hA x hx; omega
  have hB : ∀ x ∈ b, x ≤ 9 := fun x hx => by have := hB x hx; omega
  have c1 := cnv_ok ha hg hla hl hA hG
  have c2 := cnv_ok hb hg hlb hl hB hG
  have q1 := h0 t a b (lhr_ne ht) ha hb
  have q2 := hd .sum a g ha hg
  have q3 := hd .sum b g hb hg
  rw [c1.2] at q2
  rw [c2.2] at q3
  have q4 := h0 t _ _ (lhr_ne ht) c1.1 c2.1
  rw [show Deed.sum.D = .str "sum" from rfl] at q2 q3
  have hend : T28 t g (k + 1) [none, some (tok, false), some (t.D, false), none, some (tupD g, false), some (.bool (condB t g (g.length + 2)), false), a6, some (tupD a, false), some (tupD b, false)] s2 := ⟨hs2, a6, _, _, rfl, .inr ⟨a, ha, rfl⟩⟩
  unfold st28
  cases hc : condB t g (g.length + 2) with
  | false =>
    rw [hc] at hend
    simp [S_law_b1, bd_at, stE_at, thenF_at, quiet_at, ifeS, tstS, cmp1, cmp2, binS, ixS, slS, optS, biS, callS, lstS, tupS, iterS, evsS_cons, asBool, asInt, sFor, sAsg, sIf, sRet, sExp, sTup, negS, notS, andS, orS, callF_eq, callS, e2, S_law_k0, andS, setAll]
    exact hend
  | true =>
    rw [hc] at hend
    cases hf : failT t (xr a b) (yr a b) with
    | true =>
      rw [hf] at q1
      simp at q1
      simp [S_law_b1, bd_at, stE_at, thenF_at, quiet_at, ifeS, tstS, cmp1, cmp2, binS, ixS, slS, optS, biS, callS, lstS, tupS, iterS, evsS_cons, asBool, asInt, sFor, sAsg, sIf, sRet, sExp, sTup, negS, notS, andS, orS, callF_eq, callS, e2, S_law_k0, andS, setAll, q1]
      exact hend
    | false =>
      rw [keep_val ht ha hb hg hla hlb hl hA hB hG hc hf] at q4
      rw [hf] at q1
      simp at q1 q4
      simp [S_law_b1, bd_at, stE_at, thenF_at, quiet_at, ifeS, tstS, cmp1, cmp2, binS, ixS, slS, optS, biS, callS, lstS, tupS, iterS, evsS_cons, asBool, asInt, sFor, sAsg, sIf, sRet, sExp, sTup, negS, notS, andS, orS, callF_eq, callS, e2, S_law_k0, andS, setAll, q1, q2, q3, q4]
      exact hend
theorem word28 (ht : call "_law_take" = takeP) (hst : Sp_stays_with (call "stays_with")) (hco : Sp__law_condition (call "_law_condition")) (hp : Sp__law_pairB (call "_law_pair")) (h0 : Sp__law_at_most (call "_law_at_most")) (hd : Sp__law_done (call "_law_done")) {t : TW} {g : List Int} (hlt : lhr t) (hg : IsDr g) (hl : g.length ≤ 7) (hG : ∀ x ∈ g, x ≤ 1024) (k : Nat) (a5 a6 a7 a8 : Sl) {s : DS} (hs : OkS s) :
    (S_law_k5 call w [none, some (tok, false), some (t.D, false), none, some (tupD g, false), a5, a6, a7, a8] s).sat (NC (W28 (k + 1))) := by
  have e1 := hst.1 t g hlt hg
  rw [said_eq hlt hg] at e1
  have e2 := hco t g hlt hg
  have c1 := cnv_ok dr1 hg (by decide) hl (by decide) hG
  have c2 := cnv_ok dr01 hg (by decide) hl (by decide) hG
  have q2 := hd .sum [1] g dr1 hg
  have q3 := hd .sum [0, 1] g dr01 hg
  rw [c1.2] at q2
  rw [c2.2] at q3
  have q4 := h0 t _ _ (lhr_ne hlt) c1.1 c2.1
  rw [ones_val hlt hg hl hG] at q4
  rw [show Deed.sum.D = .str "sum" from rfl] at q2 q3
  have r4 := rangeN (n := 4) (by decide)
  have lp := forL_at (fun (i : Nat) => PyData.int (i : Int)) (bind := bindG (.one 6)) (b := S_law_b1 call w) (List.range 4) (T28 t g) (fun k x σ s hk ⟨hs, a6, a7, a8, e, _⟩ => by
    subst e
    exact ⟨_, rfl, turn28 hp h0 hd hlt hg hl hG k _ a7 a8 hs⟩) (σ := st28 t g a6 a7 a8) (s := s) ⟨hs, a6, a7, a8, rfl, .inl rfl⟩
  obtain ⟨fl, s3, e3, hI⟩ := lp.ex
  cases fl with
  | nx σ' =>
    obtain ⟨hs3, b6, b7, b8, rfl, h7⟩ := hI
    have hend : W28 (k + 1) (st28 t g b6 b7 b8) s3 := ⟨hs3, _, _, _, b6, b7, b8, rfl, .inr (by simpa using h7)⟩
    unfold st28 at e3 hend
    have tt : tupD [1] = .tuple [.int 1] := rfl
    have tt2 : tupD [0, 1] = .tuple [.int 0, .int 1] := rfl
    rw [tt] at q2
    rw [tt2] at q3
    have qb : ∀ b : Bool, eqD (.bool b) (.bool b) = pure true := fun b => by cases b <;> kernel_rfl
    generalize condB t g (g.length + 2) = bb at *
    simp at e3 r4
    simp [S_law_k5, bd_at, stE_at, thenF_at, quiet_at, ifeS, tstS, cmp1, cmp2, binS, ixS, slS, optS, biS, callS, lstS, tupS, iterS, evsS_cons, asBool, asInt, sFor, sAsg, sIf, sRet, sExp, sTup, negS, notS, andS, orS, callF_eq, callS, e1, S_law_k4, isL, e2, qb, S_law_k3, tupS, sline, q2, q3, q4, S_law_k2, iterS, r4, e3]
    exact hend
  | _ => exact hI.elim
theorem run_law (ht : call "_law_take" = takeP) (hst : Sp_stays_with (call "stays_with")) (hco : Sp__law_condition (call "_law_condition")) (hev : Sp__law_even (call "_law_even")) (hdi : Sp__law_dice (call "_law_dice")) (hbd : Sp__law_bad_dice (call "_law_bad_dice")) (hm : Sp__law_malformed28 (call "_law_malformed")) (hp : Sp__law_pairB (call "_law_pair")) (h0 : Sp__law_at_most (call "_law_at_most")) (hd : Sp__law_done (call "_law_done"))
    {s : DS} (hs : OkS s) : (S_law call w (startL 9) s).sat fun fl _ => ∃ o, fl = .ret (.bool true) o := by
  have hdl : dataI (lstS [(pure (.str "lr")), (pure (.str "hr")), (pure (.str "rh"))]) = (pure ([TW.lr, .hr, .rh].map TW.D) : M (List D)) := by
    simp [lstS, sline, TW.D, TW.nm]
  simp only [S_law, startL, hdl, sFor_pure]
  rw [thenF_at]
  refine Res.sat.fl (forL_at TW.D [TW.lr, .hr, .rh] W28 (fun k t σ s hv ⟨hs, a2, a4, a5, a6, a7, a8, e, _⟩ => ?_) ⟨hs, none, none, none, none, none, none, rfl, .inl rfl⟩) fun σ s ⟨hs, a2, a4, a5, a6, a7, a8, e, h7⟩ => ?_
  · subst e
    refine ⟨_, rfl, ?_⟩
    have hlt : lhr t := by
      have := List.mem_of_getElem? hv
      simp only [List.mem_cons, List.mem_nil_iff, or_false] at this
      exact this
    have t0 := tv_lo (n := 2) (s := s) (by decide)
    have t1 := tv_hi (n := 2) (s := s) (by decide)
    have hs1 := OkS_ts (n := 2) hs
    rcases (by omega : tv 2 s = 0 ∨ tv 2 s = 1) with hv | hv
    · obtain ⟨d, s2, e2, g, rfl, hg, hl, hG, hs2⟩ := (hev _ hs1).ex
      have go := word28 (w := w) ht hst hco hp h0 hd hlt hg hl hG k a5 a6 a7 a8 hs2
      simp [S_law_b6, bd_at, stE_at, thenF_at, quiet_at, ifeS, tstS, cmp1, cmp2, binS, ixS, slS, optS, biS, callS, lstS, tupS, iterS, evsS_cons, asBool, asInt, sFor, sAsg, sIf, sRet, sExp, sTup, negS, notS, andS, orS, callF_eq, take_T ht hs, hv, callS, e2]
      exact go
    · obtain ⟨d, s2, e2, g, rfl, hg0, hs2⟩ := (hdi 5 3 _ hs1 (by decide) (by decide) (by decide) (by decide)).ex
      have hg := hg0.dr (by decide) (by decide)
      have go := word28 (w := w) ht hst hco hp h0 hd hlt hg (by have := hg0.most; omega) (fun x hx => by have := (hg0.wt x hx).2; omega) k a5 a6 a7 a8 hs2
      simp [S_law_b6, bd_at, stE_at, thenF_at, quiet_at, ifeS, tstS, cmp1, cmp2, binS, ixS, slS, optS, biS, callS, lstS, tupS, iterS, evsS_cons, asBool, asInt, sFor, sAsg, sIf, sRet, sExp, sTup, negS, notS, andS, orS, callF_eq, take_T ht hs, hv, callS, e2]
      exact go
  · obtain ⟨a, ha, rfl⟩ := h7.resolve_left (by simp)
    subst e
    have hD : Dice 30 1000000 a := ⟨ha.one, by have := ha.most; omega, ha.wt, ha.last⟩
    obtain ⟨bad, s4, e4, b1, b2, hs4⟩ := (hbd 30 1000000 a s hs hD (by decide)).ex
    have t0 := tv_lo (n := 6) (s := s4) (by decide)
    have t1 := tv_hi (n := 6) (s := s4) (by decide)
    have hz : sel strange28 (tv 6 s4) ∈ strange28 := sel_mem t0 (by simpa [strange28] using t1)
    have gz := getL_sel (ds := strange28) t0 (by simpa [strange28] using t1)
    have m1 := hm.1 bad b1 b2
    have m2 := hm.2 _ hz
    generalize sel strange28 (tv 6 s4) = z at *
    simp only [strange28] at gz
    have tt : tupD [1] = .tuple [.int 1] := rfl
    rw [tt] at m2
    simp [S_law_k8, bd_at, stE_at, thenF_at, quiet_at, ifeS, tstS, cmp1, cmp2, binS, ixS, slS, optS, biS, callS, lstS, tupS, iterS, evsS_cons, asBool, asInt, sFor, sAsg, sIf, sRet, sExp, sTup, negS, notS, andS, orS, callF_eq, callS, e4, S_law_k7, andS, m1, lstS, tupS, sline, take_T ht hs4, gz, m2]
end
end Py

set_option Elab.async false
set_option linter.all false
set_option maxRecDepth 100000
namespace Py
open PySem
open PySem.Spec PyProof.Rows L2
section
variable {K : PySem.W.Frag} {mg : Str → Option Value} {h : Heap}
/-- a def of the top -/
structure DefIn (K : PySem.W.Frag) (x : Str) (st : Stmt) (nm : Str := x) : Prop where
  ex : ∃ (f : Addr) (oc : Value) (od an : Option Addr) (osl : Array (Option Value)) (kV doc pm cdv ct : Value), PySem.W.nsIn K mainGlobals x = some (some (.ref f)) ∧ K.lookup f = some ⟨oc, od, .func (PySem.W.fnOf nm nm (defArgs st) (defBody st) (defScope st) .none kV doc pm an cdv ct), osl⟩ ∧ PySem.W.codeIn K cdv nm = true ∧ PySem.W.keepIn K (.ref f) = true
theorem def_mk {x nm : Str} {st : Stmt} {f : Addr} {oc : Value} {od an : Option Addr} {osl : Array (Option Value)} {kV doc pm cdv ct : Value} (a : PySem.W.nsIn K mainGlobals x = some (some (.ref f))) (l : K.lookup f = some ⟨oc, od, .func (PySem.W.fnOf nm nm (defArgs st) (defBody st) (defScope st) .none kV doc pm an cdv ct), osl⟩)
    (c : PySem.W.codeIn K cdv nm = true) (k : PySem.W.keepIn K (.ref f) = true) : DefIn K x st nm := ⟨f, oc, od, an, osl, kV, doc, pm, cdv, ct, a, l, c, k⟩
theorem DefIn.fn {x nm : Str} {st : Stmt} (d : DefIn K x st nm) (X : K.In h) (G : h.Ns mainGlobals mg) (ps : List Str) (hb : ∀ (kV doc pm : Value) (an : Option Addr) (cdv ct : Value) (us : List Value), us.length = ps.length → bindArgs (PySem.W.fnOf nm nm (defArgs st) (defBody st) (defScope st) .none kV doc pm an cdv ct) ⟨us, []⟩ = pure (ps.zip us)) :
    ∃ f fd, L2.Fun K nm nm st f fd ∧ mg x = some (.ref f) ∧ Binds K fd ps [] := by
  obtain ⟨f, oc, od, an, osl, kV, doc, pm, cdv, ct, a, l, c, k⟩ := d.ex
  have F := fun_mk l c k
  exact ⟨f, _, F, PySem.W.mg_of X G a, F.binds hb⟩
/-- an error class of the top that keeps its reason -/
def RefIn (K : PySem.W.Frag) (C : Addr) (file : Str) : Prop := ∀ prog : Program, ((prog.main.file : Str) == file) = true → (prog.main.scope.names.lookup ("super" : Str)).isSome = false → ∃ fI, PySem.RefX.RefTxt prog K C fI
theorem ref_mk {C fI cda cc N : Addr} {nm q : Str} {bs bm : List Value} {sn : List Str} {sub : List Value} {ab : Bool} {col : Option Bool} {dd : Option Addr} {k0 k1 k2 k3 k5 : Option Value} {oc doc pm ct ccl cl : Value} {od an cdd cld : Option Addr} {osl ccs csl : Array (Option Value)} {p1 p2 a1 a2 a3 a4 a5 a6 q1 q2 q3 q4 : Pos} {vs : Array Value} {file : Str} {tf : Tok}
    (xL : K.lookup C = some (PySem.excClassObj nm q C N bs bm true sn sub ab col dd k0 k1 k2 k3 k5 "ValueError.__new__")) (hbm : PySem.HandSPX.refsVE bm = true)
    (sup : PySem.W.ks_superIn K C C "__init__" = some (some (.builtin "ValueError.__init__")))
    (sa : PySem.W.findIn K (.ref C) "__setattr__" = some (some (.builtin "object.__setattr__"))) (ga : PySem.W.findIn K (.ref C) "__getattribute__" = some (some (.builtin "BaseException.__getattribute__"))) (gg : PySem.W.findIn K (.ref C) "__getattr__" = some none) (noN : PySem.W.findIn K (.ref C) "reason" = some none)
    (iC : PySem.W.findIn K (.ref C) "__init__" = some (some (.ref fI))) (tC : PySem.W.typeIn K (.ref fI) = some (.type "function")) (kC : PySem.W.keepIn K (.ref C) = true) (exC : PySem.W.subIn K (.ref C) (.type "BaseException") = some true) (veC : PySem.W.subIn K (.ref C) (.type "ValueError") = some true)
    (mC : PySem.W.mroIn K C (.ref C) = some true) (tyC : PySem.W.typeIn K (.ref C) = some (.type "type")) (hdC : PySem.W.hasDictIn K C = true) (any : PySem.W.nsIn K cStatics "thirdparty.any" = some none) (sg : PySem.W.nsIn K mainGlobals "super" = some none)
    (l1 : K.lookup fI = some ⟨oc, od, .func (PySem.W.ksFn "__init__" "Refused.__init__" (PySem.RefX.iA p1 p2) (PySem.RefX.iB a1 a2 a3 a4 a5 a6 q1 q2 q3 q4) PySem.RefX.rS .none .none doc pm an (.ref cda) ct cc), osl⟩) (c1 : PySem.W.codeIn K (.ref cda) "Refused.__init__" = true)
    (l2 : K.lookup cda = some ⟨ccl, cdd, .fields vs, ccs⟩) (hv : vs[2]? = some (.str file tf)) (l3 : K.lookup cc = some ⟨cl, cld, .cell (some (.ref C)), csl⟩)
    (hev : ∀ env : Env, ∃ pl, eval (.Call (.Attribute (.Call (.Name "super" a1) [] [] a2) "__init__" a3) [.Name "reason" a4] [] a5) env = (do
        let ov ← attributeBase (.Call (.Name "super" a1) [] [] a2) "__init__" env (eval (.Call (.Name "super" a1) [] [] a2) env)
        standAt a3.atName
        let (f, first) ← holding [ov] (getMethod ov "__init__" pl)
        callWith a5 f first (backTo a5 (starEach [.Name "reason" a4] env)) [])) : RefIn K C file := fun prog hf hs =>
  ⟨fI, ⟨⟨nm, q, N, bs, bm, sn, sub, ab, col, dd, k0, k1, k2, k3, k5, xL, hbm⟩, sup, sa, ga, gg, noN, iC, tC, kC, exC, veC, mC, by unfold PySem.W.clsIn; rw [xL]; rfl, tyC, hdC, any, sg, hs,
    ⟨oc, od, doc, pm, an, cda, cc, ct, osl, p1, p2, a1, a2, a3, a4, a5, a6, q1, q2, q3, q4, ccl, cl, cdd, cld, ccs, csl, vs, file, tf, l1, c1, l2, hv, hf, l3, hev⟩⟩⟩
/-- an exception class of the top -/
structure ExRn (K : PySem.W.Frag) (c : Str) (C : Addr) : Prop where
  a : PySem.W.nsIn K mainGlobals c = some (some (.ref C))
  k : PySem.W.keepIn K (.ref C) = true
  t : PySem.W.typeIn K (.ref C) = some (.type "type")
  e : ExcC K C
structure ExIn (K : PySem.W.Frag) (c : Str) (C : Addr) : Prop where
  a : PySem.W.nsIn K mainGlobals c = some (some (.ref C))
  x : PySem.W.excIn K C [.type "ValueError", .type "Exception", .type "BaseException", .type "object"] "ValueError.__new__" = true
  k : PySem.W.keepIn K (.ref C) = true
  t : PySem.W.typeIn K (.ref C) = some (.type "type")
  e : ExcC K C
theorem kit_ref {t : Value} {C : Addr} (hd : PySem.W.hasDictIn K C = true) (ht : PySem.W.typeIn K (.ref C) = some (.type "type")) (h4 : PySem.W.subIn K t (.ref C) = some true) : PySem.W.kitOne K t (.ref C) = some true := by
  unfold PySem.W.kitOne
  split
  · rfl
  · obtain ⟨cd, hc, _⟩ := PySem.W.any_some hd
    have e2 : ((PySem.W.clsIn K C).isSome && PySem.W.typeIn K (.ref C) == some (.type "type")) = true := by rw [hc, ht] <;> rfl
    show (if _ then _ else none) = _
    rw [if_pos e2]
    exact h4
theorem kit_ty' {t : Value} {T : String} (hm : PySem.W.kitMeta T = true) (h4 : PySem.W.subIn K t (.type T) = some true) : PySem.W.kitOne K t (.type T) = some true := by
  unfold PySem.W.kitOne
  split
  · rfl
  · show (if _ then _ else none) = _
    rw [if_pos hm]
    exact h4
theorem lookup_mem {α : Type} {x : Str} {l : List (Str × α)} {a : α} (h : l.lookup x = some a) : (x, a) ∈ l := by
  induction l with
  | nil => cases h
  | cons p l ih =>
    obtain ⟨y, b⟩ := p
    rw [List.lookup_cons] at h
    split at h
    · rename_i e
      have e := eq_of_beq e
      subst e
      cases h
      exact List.mem_cons_self ..
    · exact List.mem_cons_of_mem _ (ih h)
theorem lookup_mem2 {α : Type} {x : Str × Str} {l : List ((Str × Str) × α)} {a : α} (h : l.lookup x = some a) : (x, a) ∈ l := by
  induction l with
  | nil => cases h
  | cons p l ih =>
    obtain ⟨y, b⟩ := p
    rw [List.lookup_cons] at h
    split at h
    · rename_i e
      have e := eq_of_beq e
      subst e
      cases h
      exact List.mem_cons_self ..
    · exact List.mem_cons_of_mem _ (ih h)
end
mutual
/-- a written constant of the top -/
def ItIn (K : PySem.W.Frag) : D → Value → Prop
  | .int i, v => ∃ t, v = .int i t
  | .str i, v => ∃ t, v = .str i t
  | .bool b, v => v = .bool b
  | .none, v => v = .none
  | .tuple ds, v => ∃ (a : Addr) (od : Option Addr) (its : Array Value) (n : Nat) (sl : Array (Option Value)), v = .ref a ∧ K.lookup a = some ⟨.type "tuple", od, .seq its n, sl⟩ ∧ its.size ≤ sizeLine ∧ ItsIn K ds its.toList
  | .list _, _ => False
  | .dict _, _ => False
def ItsIn (K : PySem.W.Frag) : List D → List Value → Prop
  | [], us => us = []
  | d :: ds, us => ∃ u vs, us = u :: vs ∧ ItIn K d u ∧ ItsIn K ds vs
end
mutual
theorem ItIn.rp {U : Wd} : ∀ (d : D) (u : Value), ItIn U.K d u → ∃ v, RelV v u ∧ ∀ ow H, Rp U ow H d v
  | .int i, u, h => by
    unfold ItIn at h
    obtain ⟨t, rfl⟩ := h
    exact ⟨.int i, ⟨t, rfl⟩, fun _ _ => Rp.int⟩
  | .str i, u, h => by
    unfold ItIn at h
    obtain ⟨t, rfl⟩ := h
    exact ⟨.str i, ⟨t, rfl⟩, fun _ _ => Rp.str⟩
  | .bool b, u, h => by
    unfold ItIn at h
    subst h
    exact ⟨.bl b, rfl, fun _ _ => Rp.bool⟩
  | .none, u, h => by
    unfold ItIn at h
    subst h
    exact ⟨.non, rfl, fun _ _ => Rp.none⟩
  | .tuple ds, u, h => by
    unfold ItIn at h
    obtain ⟨a, od, its, n, sl, rfl, l, hs, r⟩ := h
    obtain ⟨xs, r1, r2⟩ := ItsIn.rp ds its.toList r
    refine ⟨.ref a, rfl, fun ow H => ?_⟩
    unfold Rp
    exact ⟨a, xs, rfl, .inr ⟨_, its, n, l, rfl, rfl, hs, r1⟩, r2 ow H⟩
  | .list _, u, h => by
    unfold ItIn at h
    exact h.elim
  | .dict _, u, h => by
    unfold ItIn at h
    exact h.elim
theorem ItsIn.rp {U : Wd} : ∀ (ds : List D) (us : List Value), ItsIn U.K ds us → ∃ xs, Vals xs us ∧ ∀ ow H, RpL U ow H ds xs
  | [], us, h => by
    unfold ItsIn at h
    subst h
    exact ⟨[], .nil, fun _ _ => RpL.nil⟩
  | d :: ds, us, h => by
    unfold ItsIn at h
    obtain ⟨u, vs, rfl, h1, h2⟩ := h
    obtain ⟨v, r1, r2⟩ := ItIn.rp d u h1
    obtain ⟨xs, r3, r4⟩ := ItsIn.rp ds vs h2
    exact ⟨v :: xs, .cons r1 r3, fun ow H => RpL.cons (r2 ow H) (r4 ow H)⟩
end
/-- the entries of a written dict -/
def EsIn (K : PySem.W.Frag) (P : Params) : List (D × D) → List DictEntry → Prop
  | [], es => es = []
  | p :: r, es => ∃ (z : Str) (t : Tok) (e : DictEntry) (es' : List DictEntry), es = e :: es' ∧ p.1 = .str z ∧ e.key = .str z t ∧ e.hash = PyData.keyHash P z ∧ ItIn K p.2 e.val ∧ EsIn K P r es'
/-- a written dict of the top -/
def DcIn (K : PySem.W.Frag) (P : Params) (kvs : List (D × D)) (v : Value) : Prop := ∃ (a : Addr) (es : Array DictEntry) (n : Nat), v = .ref a ∧ K.lookup a = some ⟨.type "dict", none, .dict es n, #[]⟩ ∧ (a == sysModules) = false ∧ EsIn K P kvs es.toList
theorem EsIn.rp {U : Wd} : ∀ (kvs : List (D × D)) (es : List DictEntry), EsIn U.K U.w.params kvs es → PySem.W.KeysLit U.w.params es ∧ (es.any (·.refKey)) = false ∧ ∃ xs : List (Key × V), (∀ ow H, RpD U ow H kvs xs) ∧ (∀ p ∈ xs, ∃ z : Str, p.1 = .inr z) ∧
    ∀ z : Str, RelO (valV xs (.inr z)) ((es.find? (·.key.isStr z)).map (·.val))
  | [], es, h => by
    unfold EsIn at h
    subst h
    refine ⟨trivial, rfl, [], fun _ _ => ?_, fun p hp => ?_, fun z => trivial⟩
    · unfold RpD
      rfl
    · exact absurd hp List.not_mem_nil
  | p :: r, es, h => by
    unfold EsIn at h
    obtain ⟨z, t, e, es', rfl, h1, h2, h3, h4, h5⟩ := h
    obtain ⟨k1, k2, xs, k3, k4, k5⟩ := EsIn.rp r es' h5
    obtain ⟨x, r1, r2⟩ := ItIn.rp (U := U) p.2 e.val h4
    refine ⟨⟨⟨z, t, h2, h3⟩, k1⟩, ?_, (.inr z, x) :: xs, fun ow H => ?_, fun q hq => ?_, fun y => ?_⟩
    · rw [List.any_cons, k2, Bool.or_false]
      show DictEntry.refKey e = false
      unfold DictEntry.refKey
      rw [h2]
    · unfold RpD
      exact ⟨.inr z, x, xs, rfl, by rw [h1]; rfl, r2 ow H, k3 ow H⟩
    · rcases List.mem_cons.mp hq with rfl | hq
      · exact ⟨z, rfl⟩
      · exact k4 q hq
    · by_cases hz : z = y
      · subst hz
        have e1 : (e.key.isStr z) = true := by
          rw [h2]
          show (z == z) = true
          simp
        rw [List.find?_cons_of_pos (p := fun d : DictEntry => d.key.isStr z) e1]
        unfold valV
        rw [List.find?_cons_of_pos (by simp)]
        exact r1
      · have e1 : ¬ (e.key.isStr y) = true := by
          rw [h2]
          show ¬ (z == y) = true
          intro c
          exact hz (eq_of_beq c)
        rw [List.find?_cons_of_neg (p := fun d : DictEntry => d.key.isStr y) e1]
        unfold valV
        rw [List.find?_cons_of_neg (by
          simp only [decide_eq_true_eq]
          intro c
          exact hz (Sum.inr.inj c))]
        exact k5 y
theorem DcIn.rp {U : Wd} {kvs : List (D × D)} {u : Value} (h : DcIn U.K U.w.params kvs u) : ∃ v, RelV v u ∧ ∀ ow H, Rp U ow H (.dict kvs) v := by
  obtain ⟨a, es, n, rfl, l, hs, r⟩ := h
  obtain ⟨k1, k2, xs, k3, k4, k5⟩ := EsIn.rp kvs es.toList r
  refine ⟨.ref a, rfl, fun ow H => ?_⟩
  unfold Rp
  refine .inr ⟨a, xs, rfl, .inr ⟨⟨es, n, ⟨l, k1, hs⟩⟩, fun z => ?_, k4⟩, k3 ow H⟩
  refine ⟨(es.toList.find? (·.key.isStr z)).map (·.val), ?_, k5 z⟩
  unfold PySem.W.nsIn
  rw [l]
  dsimp only
  cases es.toList.find? (·.key.isStr z) with
  | some e => rfl
  | none => rw [k2]; rfl
theorem esN {K : PySem.W.Frag} {P : Params} : EsIn K P [] [] := by unfold EsIn; rfl
theorem esC {K : PySem.W.Frag} {P : Params} {z : Str} {t : Tok} {d : D} {u : Value} {r : List (D × D)} {es : List DictEntry} {h : Int} (hh : h = PyData.keyHash P z) (i : ItIn K d u) (q : EsIn K P r es) : EsIn K P ((.str z, d) :: r) (⟨h, .str z t, u⟩ :: es) := by
  unfold EsIn
  exact ⟨z, t, ⟨h, .str z t, u⟩, es, rfl, rfl, rfl, hh, i, q⟩
theorem dc_mk {K : PySem.W.Frag} {P : Params} {x : Str} {kvs : List (D × D)} {a : Addr} {es : List DictEntry} {n : Nat} (b : PySem.W.nsIn K mainGlobals x = some (some (.ref a))) (l : K.lookup a = some ⟨.type "dict", none, .dict es.toArray n, #[]⟩) (hs : (a == sysModules) = false) (q : EsIn K P kvs es) : ∃ u, PySem.W.nsIn K mainGlobals x = some (some u) ∧ DcIn K P kvs u :=
  ⟨.ref a, b, a, es.toArray, n, rfl, l, hs, by simpa using q⟩
theorem itI {K : PySem.W.Frag} {i : Int} {t : Tok} : ItIn K (.int i) (.int i t) := by unfold ItIn; exact ⟨t, rfl⟩
theorem itS {K : PySem.W.Frag} {i : Str} {t : Tok} : ItIn K (.str i) (.str i t) := by unfold ItIn; exact ⟨t, rfl⟩
theorem itT {K : PySem.W.Frag} {ds : List D} {a : Addr} {od : Option Addr} {its : List Value} {n : Nat} {sl : Array (Option Value)} (l : K.lookup a = some ⟨.type "tuple", od, .seq its.toArray n, sl⟩) (r : ItsIn K ds its) (hs : its.length ≤ 1000) : ItIn K (.tuple ds) (.ref a) := by
  unfold ItIn
  exact ⟨a, od, its.toArray, n, sl, rfl, l, by simpa using Nat.le_trans hs (by decide), r⟩
theorem itN {K : PySem.W.Frag} : ItsIn K [] [] := by unfold ItsIn; rfl
theorem itC {K : PySem.W.Frag} {d : D} {ds : List D} {u : Value} {us : List Value} (h : ItIn K d u) (r : ItsIn K ds us) : ItsIn K (d :: ds) (u :: us) := by unfold ItsIn; exact ⟨u, us, rfl, h, r⟩
theorem cst_mk {K : PySem.W.Frag} {x : Str} {d : D} {u : Value} (a : PySem.W.nsIn K mainGlobals x = some (some u)) (i : ItIn K d u) : ∃ u, PySem.W.nsIn K mainGlobals x = some (some u) ∧ ItIn K d u := ⟨u, a, i⟩
end Py

set_option Elab.async false
set_option linter.all false
set_option maxRecDepth 100000
namespace Py
open PySem
open PySem.Spec L2
set_option maxHeartbeats 4000000
def top (i : Nat) : Stmt := PySem.Challenge.pw_drawnhigher_k28_whole_sums_that_keep_rat.main.body.getD i (.Pass ⟨0, 0, 0, 0⟩)
def F_is_whole : Fd := ⟨["value"], ["value"], defScope (top 4), defBody (top 4), ⟨false, false⟩⟩
def F_is_draw : Fd := ⟨["value"], ["value", "item"], defScope (top 8), defBody (top 8), ⟨false, false⟩⟩
def F_check_draw : Fd := ⟨["value"], ["value"], defScope (top 9), defBody (top 9), ⟨false, false⟩⟩
def F_tails : Fd := ⟨["row"], ["row", "found", "total", "item"], defScope (top 11), defBody (top 11), ⟨false, false⟩⟩
def F_heads : Fd := ⟨["row"], ["row", "found", "total", "item"], defScope (top 12), defBody (top 12), ⟨false, false⟩⟩
def F_stays_with : Fd := ⟨["word", "other"], ["word", "other", "one", "row", "size", "k", "i"], defScope (top 14), defBody (top 14), ⟨false, false⟩⟩
def F__law_dice : Fd := ⟨["draw", "numbers", "weight"], ["draw", "numbers", "weight", "found", "k"], defScope (top 18), defBody (top 18), ⟨false, false⟩⟩
def F__law_near : Fd := ⟨["draw", "one", "numbers", "weight"], ["draw", "one", "numbers", "weight", "row", "turn", "i", "j", "step"], defScope (top 19), defBody (top 19), ⟨false, false⟩⟩
def F__law_pair : Fd := ⟨["draw", "numbers", "weight"], ["draw", "numbers", "weight", "one", "two"], defScope (top 20), defBody (top 20), ⟨false, false⟩⟩
def F__law_together : Fd := ⟨["one", "two"], ["one", "two", "size", "x", "y", "item"], defScope (top 21), defBody (top 21), ⟨false, false⟩⟩
def F__law_tails : Fd := ⟨["row"], ["row", "k"], defScope (top 22), defBody (top 22), ⟨false, false⟩⟩
def F__law_heads : Fd := ⟨["row"], ["row", "k"], defScope (top 23), defBody (top 23), ⟨false, false⟩⟩
def F__law_ratios : Fd := ⟨["one", "two"], ["one", "two", "k", "i"], defScope (top 24), defBody (top 24), ⟨false, false⟩⟩
def F__law_all_at_most : Fd := ⟨["one", "two"], ["one", "two", "k"], defScope (top 25), defBody (top 25), ⟨false, false⟩⟩
def F__law_at_most : Fd := ⟨["one", "two", "word"], ["one", "two", "word", "x", "y", "s", "t", "e", "d", "ends", "ahead", "places", "row", "k", "item", "j"], defScope (top 26), defBody (top 26), ⟨false, false⟩⟩
def F__law_least_row : Fd := ⟨["row"], ["row", "found", "part", "item", "a", "b"], defScope (top 27), defBody (top 27), ⟨false, false⟩⟩
def F__law_done : Fd := ⟨["deed", "one", "other"], ["deed", "one", "other", "found", "least", "k", "i", "j", "place"], defScope (top 28), defBody (top 28), ⟨false, false⟩⟩
def F__law_bad_dice : Fd := ⟨["draw", "one"], ["draw", "one", "found"], defScope (top 30), defBody (top 30), ⟨false, false⟩⟩
def F__law_condition : Fd := ⟨["word", "other"], ["word", "other", "row", "k", "i"], defScope (top 31), defBody (top 31), ⟨false, false⟩⟩
def F__law_even : Fd := ⟨["draw"], ["draw", "row", "ratio", "k"], defScope (top 32), defBody (top 32), ⟨false, false⟩⟩
def F__law_malformed : Fd := ⟨["word", "other"], ["word", "other", "e"], defScope (top 33), defBody (top 33), ⟨false, false⟩⟩
def fdT : List (Str × Fd) := [(("is_whole" : Str), F_is_whole), (("is_draw" : Str), F_is_draw), (("check_draw" : Str), F_check_draw), (("tails" : Str), F_tails), (("heads" : Str), F_heads), (("stays_with" : Str), F_stays_with), (("_law_dice" : Str), F__law_dice), (("_law_near" : Str), F__law_near), (("_law_pair" : Str), F__law_pair), (("_law_together" : Str), F__law_together), (("_law_tails" : Str), F__law_tails), (("_law_heads" : Str), F__law_heads), (("_law_ratios" : Str), F__law_ratios), (("_law_all_at_most" : Str), F__law_all_at_most), (("_law_at_most" : Str), F__law_at_most), (("_law_least_row" : Str), F__law_least_row), (("_law_done" : Str), F__law_done), (("_law_bad_dice" : Str), F__law_bad_dice), (("_law_condition" : Str), F__law_condition), (("_law_even" : Str), F__law_even), (("_law_malformed" : Str), F__law_malformed)]
def cstT : List (Str × D) := [(("MOST_NUMBER" : Str), .int 30), (("MOST_WEIGHT" : Str), .int 1000000)]
def bareT : List Str := ["abs", "all", "bool", "int", "isinstance", "len", "list", "max", "min", "range", "str", "sum", "tuple"]
def excT : List Str := ["Malformed"]
def iniT : List Str := []
def subT : List ((Str × Str) × Bool) := [(("Malformed", "Fault"), true), (("Malformed", "ValueError"), true)]
def P : Pg := ⟨fun x => fdT.lookup x, fun x => if x = ("_law_take" : Str) then some takeP else none, fun x => cstT.lookup x, fun x => decide (x ∈ bareT), fun x => decide (x ∈ excT), fun x => decide (x ∈ iniT), fun x y => subT.lookup (x, y)⟩
theorem l_is_whole (call : Str → List D → M D) (w : Nat) : runFd (P.gl call) w F_is_whole = S_is_whole call w := by kernel_rfl
theorem u_is_whole (w k : Nat) : P.call w (k + 1) "is_whole" = S_is_whole (P.call w k) w := (funext fun ds => rfl : P.call w (k + 1) "is_whole" = fun ds => runFd (P.gl (P.call w k)) w F_is_whole ds).trans (l_is_whole (P.call w k) w)
theorem l_is_draw (call : Str → List D → M D) (w : Nat) : runFd (P.gl call) w F_is_draw = S_is_draw call w := by kernel_rfl
theorem u_is_draw (w k : Nat) : P.call w (k + 1) "is_draw" = S_is_draw (P.call w k) w := (funext fun ds => rfl : P.call w (k + 1) "is_draw" = fun ds => runFd (P.gl (P.call w k)) w F_is_draw ds).trans (l_is_draw (P.call w k) w)
theorem l_check_draw (call : Str → List D → M D) (w : Nat) : runFd (P.gl call) w F_check_draw = S_check_draw call w := by kernel_rfl
theorem u_check_draw (w k : Nat) : P.call w (k + 1) "check_draw" = S_check_draw (P.call w k) w := (funext fun ds => rfl : P.call w (k + 1) "check_draw" = fun ds => runFd (P.gl (P.call w k)) w F_check_draw ds).trans (l_check_draw (P.call w k) w)
theorem l_tails (call : Str → List D → M D) (w : Nat) : runFd (P.gl call) w F_tails = S_tails call w := by kernel_rfl
theorem u_tails (w k : Nat) : P.call w (k + 1) "tails" = S_tails (P.call w k) w := (funext fun ds => rfl : P.call w (k + 1) "tails" = fun ds => runFd (P.gl (P.call w k)) w F_tails ds).trans (l_tails (P.call w k) w)
theorem l_heads (call : Str → List D → M D) (w : Nat) : runFd (P.gl call) w F_heads = S_heads call w := by kernel_rfl
theorem u_heads (w k : Nat) : P.call w (k + 1) "heads" = S_heads (P.call w k) w := (funext fun ds => rfl : P.call w (k + 1) "heads" = fun ds => runFd (P.gl (P.call w k)) w F_heads ds).trans (l_heads (P.call w k) w)
theorem l_stays_with (call : Str → List D → M D) (w : Nat) : runFd (P.gl call) w F_stays_with = S_stays_with call w := by kernel_rfl
theorem u_stays_with (w k : Nat) : P.call w (k + 1) "stays_with" = S_stays_with (P.call w k) w := (funext fun ds => rfl : P.call w (k + 1) "stays_with" = fun ds => runFd (P.gl (P.call w k)) w F_stays_with ds).trans (l_stays_with (P.call w k) w)
theorem l__law_dice (call : Str → List D → M D) (w : Nat) : runFd (P.gl call) w F__law_dice = S__law_dice call w := by kernel_rfl
theorem u__law_dice (w k : Nat) : P.call w (k + 1) "_law_dice" = S__law_dice (P.call w k) w := (funext fun ds => rfl : P.call w (k + 1) "_law_dice" = fun ds => runFd (P.gl (P.call w k)) w F__law_dice ds).trans (l__law_dice (P.call w k) w)
theorem l__law_near (call : Str → List D → M D) (w : Nat) : runFd (P.gl call) w F__law_near = S__law_near call w := by kernel_rfl
theorem u__law_near (w k : Nat) : P.call w (k + 1) "_law_near" = S__law_near (P.call w k) w := (funext fun ds => rfl : P.call w (k + 1) "_law_near" = fun ds => runFd (P.gl (P.call w k)) w F__law_near ds).trans (l__law_near (P.call w k) w)
theorem l__law_pair (call : Str → List D → M D) (w : Nat) : runFd (P.gl call) w F__law_pair = S__law_pair call w := by kernel_rfl
theorem u__law_pair (w k : Nat) : P.call w (k + 1) "_law_pair" = S__law_pair (P.call w k) w := (funext fun ds => rfl : P.call w (k + 1) "_law_pair" = fun ds => runFd (P.gl (P.call w k)) w F__law_pair ds).trans (l__law_pair (P.call w k) w)
theorem l__law_together (call : Str → List D → M D) (w : Nat) : runFd (P.gl call) w F__law_together = S__law_together call w := by kernel_rfl
theorem u__law_together (w k : Nat) : P.call w (k + 1) "_law_together" = S__law_together (P.call w k) w := (funext fun ds => rfl : P.call w (k + 1) "_law_together" = fun ds => runFd (P.gl (P.call w k)) w F__law_together ds).trans (l__law_together (P.call w k) w)
theorem l__law_tails (call : Str → List D → M D) (w : Nat) : runFd (P.gl call) w F__law_tails = S__law_tails call w := by kernel_rfl
theorem u__law_tails (w k : Nat) : P.call w (k + 1) "_law_tails" = S__law_tails (P.call w k) w := (funext fun ds => rfl : P.call w (k + 1) "_law_tails" = fun ds => runFd (P.gl (P.call w k)) w F__law_tails ds).trans (l__law_tails (P.call w k) w)
theorem l__law_heads (call : Str → List D → M D) (w : Nat) : runFd (P.gl call) w F__law_heads = S__law_heads call w := by kernel_rfl
theorem u__law_heads (w k : Nat) : P.call w (k + 1) "_law_heads" = S__law_heads (P.call w k) w := (funext fun ds => rfl : P.call w (k + 1) "_law_heads" = fun ds => runFd (P.gl (P.call w k)) w F__law_heads ds).trans (l__law_heads (P.call w k) w)
theorem l__law_ratios (call : Str → List D → M D) (w : Nat) : runFd (P.gl call) w F__law_ratios = S__law_ratios call w := by kernel_rfl
theorem u__law_ratios (w k : Nat) : P.call w (k + 1) "_law_ratios" = S__law_ratios (P.call w k) w := (funext fun ds => rfl : P.call w (k + 1) "_law_ratios" = fun ds => runFd (P.gl (P.call w k)) w F__law_ratios ds).trans (l__law_ratios (P.call w k) w)
theorem l__law_all_at_most (call : Str → List D → M D) (w : Nat) : runFd (P.gl call) w F__law_all_at_most = S__law_all_at_most call w := by kernel_rfl
theorem u__law_all_at_most (w k : Nat) : P.call w (k + 1) "_law_all_at_most" = S__law_all_at_most (P.call w k) w := (funext fun ds => rfl : P.call w (k + 1) "_law_all_at_most" = fun ds => runFd (P.gl (P.call w k)) w F__law_all_at_most ds).trans (l__law_all_at_most (P.call w k) w)
theorem l__law_at_most (call : Str → List D → M D) (w : Nat) : runFd (P.gl call) w F__law_at_most = S__law_at_most call w := by kernel_rfl
theorem u__law_at_most (w k : Nat) : P.call w (k + 1) "_law_at_most" = S__law_at_most (P.call w k) w := (funext fun ds => rfl : P.call w (k + 1) "_law_at_most" = fun ds => runFd (P.gl (P.call w k)) w F__law_at_most ds).trans (l__law_at_most (P.call w k) w)
theorem l__law_least_row (call : Str → List D → M D) (w : Nat) : runFd (P.gl call) w F__law_least_row = S__law_least_row call w := by kernel_rfl
theorem u__law_least_row (w k : Nat) : P.call w (k + 1) "_law_least_row" = S__law_least_row (P.call w k) w := (funext fun ds => rfl : P.call w (k + 1) "_law_least_row" = fun ds => runFd (P.gl (P.call w k)) w F__law_least_row ds).trans (l__law_least_row (P.call w k) w)
theorem l__law_done (call : Str → List D → M D) (w : Nat) : runFd (P.gl call) w F__law_done = S__law_done call w := by kernel_rfl
theorem u__law_done (w k : Nat) : P.call w (k + 1) "_law_done" = S__law_done (P.call w k) w := (funext fun ds => rfl : P.call w (k + 1) "_law_done" = fun ds => runFd (P.gl (P.call w k)) w F__law_done ds).trans (l__law_done (P.call w k) w)
theorem l__law_bad_dice (call : Str → List D → M D) (w : Nat) : runFd (P.gl call) w F__law_bad_dice = S__law_bad_dice call w := by kernel_rfl
theorem u__law_bad_dice (w k : Nat) : P.call w (k + 1) "_law_bad_dice" = S__law_bad_dice (P.call w k) w := (funext fun ds => rfl : P.call w (k + 1) "_law_bad_dice" = fun ds => runFd (P.gl (P.call w k)) w F__law_bad_dice ds).trans (l__law_bad_dice (P.call w k) w)
theorem l__law_condition (call : Str → List D → M D) (w : Nat) : runFd (P.gl call) w F__law_condition = S__law_condition call w := by kernel_rfl
theorem u__law_condition (w k : Nat) : P.call w (k + 1) "_law_condition" = S__law_condition (P.call w k) w := (funext fun ds => rfl : P.call w (k + 1) "_law_condition" = fun ds => runFd (P.gl (P.call w k)) w F__law_condition ds).trans (l__law_condition (P.call w k) w)
theorem l__law_even (call : Str → List D → M D) (w : Nat) : runFd (P.gl call) w F__law_even = S__law_even call w := by kernel_rfl
theorem u__law_even (w k : Nat) : P.call w (k + 1) "_law_even" = S__law_even (P.call w k) w := (funext fun ds => rfl : P.call w (k + 1) "_law_even" = fun ds => runFd (P.gl (P.call w k)) w F__law_even ds).trans (l__law_even (P.call w k) w)
theorem l__law_malformed (call : Str → List D → M D) (w : Nat) : runFd (P.gl call) w F__law_malformed = S__law_malformed call w := by kernel_rfl
theorem u__law_malformed (w k : Nat) : P.call w (k + 1) "_law_malformed" = S__law_malformed (P.call w k) w := (funext fun ds => rfl : P.call w (k + 1) "_law_malformed" = fun ds => runFd (P.gl (P.call w k)) w F__law_malformed ds).trans (l__law_malformed (P.call w k) w)
theorem l_law (call : Str → List D → M D) (w : Nat) (σ : St) : exec (P.gl call) (evE (P.gl call) 40) w ⟨nLaw, defScope (top 34), defScope (top 34)⟩ 60 σ ((defBody (top 34)).drop 1) = S_law call w σ := by kernel_rfl
theorem u__law_take (w k : Nat) : P.call w (k + 1) "_law_take" = takeP := rfl
theorem c_is_whole {w k : Nat} (hw : 1 ≤ w) (hk : 1 ≤ k) : Sp_is_whole (P.call w k "is_whole") := by
  obtain ⟨k, rfl⟩ : ∃ j, k = j + 1 := ⟨k - 1, by omega⟩
  rw [u_is_whole]
  exact s_is_whole 
theorem c_is_draw {w k : Nat} (hw : 1 ≤ w) (hk : 2 ≤ k) : Sp_is_draw (P.call w k "is_draw") := by
  obtain ⟨k, rfl⟩ : ∃ j, k = j + 1 := ⟨k - 1, by omega⟩
  rw [u_is_draw]
  exact s_is_draw (c_is_whole hw (by omega))
theorem c_check_draw {w k : Nat} (hw : 1 ≤ w) (hk : 3 ≤ k) : Sp_check_draw (P.call w k "check_draw") := by
  obtain ⟨k, rfl⟩ : ∃ j, k = j + 1 := ⟨k - 1, by omega⟩
  rw [u_check_draw]
  exact s_check_draw (c_is_draw hw (by omega))
theorem c_tails {w k : Nat} (hw : 1 ≤ w) (hk : 1 ≤ k) : Sp_tails (P.call w k "tails") := by
  obtain ⟨k, rfl⟩ : ∃ j, k = j + 1 := ⟨k - 1, by omega⟩
  rw [u_tails]
  exact s_tails 
theorem c_heads {w k : Nat} (hw : 1 ≤ w) (hk : 1 ≤ k) : Sp_heads (P.call w k "heads") := by
  obtain ⟨k, rfl⟩ : ∃ j, k = j + 1 := ⟨k - 1, by omega⟩
  rw [u_heads]
  exact s_heads 
theorem c_stays_with {w k : Nat} (hw : 1 ≤ w) (hk : 4 ≤ k) : Sp_stays_with (P.call w k "stays_with") := by
  obtain ⟨k, rfl⟩ : ∃ j, k = j + 1 := ⟨k - 1, by omega⟩
  rw [u_stays_with]
  exact s_stays_with (c_check_draw hw (by omega)) (c_tails hw (by omega)) (c_heads hw (by omega))
theorem c__law_tails {w k : Nat} (hw : 1 ≤ w) (hk : 1 ≤ k) : Sp__law_tails (P.call w k "_law_tails") := by
  obtain ⟨k, rfl⟩ : ∃ j, k = j + 1 := ⟨k - 1, by omega⟩
  rw [u__law_tails]
  exact s__law_tails 
theorem c__law_heads {w k : Nat} (hw : 1 ≤ w) (hk : 1 ≤ k) : Sp__law_heads (P.call w k "_law_heads") := by
  obtain ⟨k, rfl⟩ : ∃ j, k = j + 1 := ⟨k - 1, by omega⟩
  rw [u__law_heads]
  exact s__law_heads 
theorem c__law_condition {w k : Nat} (hw : 1 ≤ w) (hk : 2 ≤ k) : Sp__law_condition (P.call w k "_law_condition") := by
  obtain ⟨k, rfl⟩ : ∃ j, k = j + 1 := ⟨k - 1, by omega⟩
  rw [u__law_condition]
  exact s__law_condition (c__law_tails hw (by omega)) (c__law_heads hw (by omega))
theorem c__law_even {w k : Nat} (hw : 1 ≤ w) (hk : 2 ≤ k) : Sp__law_even (P.call w k "_law_even") := by
  obtain ⟨k, rfl⟩ : ∃ j, k = j + 1 := ⟨k - 1, by omega⟩
  rw [u__law_even]
  exact s__law_even (by obtain ⟨j, rfl⟩ : ∃ j, k = j + 1 := ⟨k - 1, by omega⟩; exact u__law_take w j)
theorem c__law_dice {w k : Nat} (hw : 1 ≤ w) (hk : 2 ≤ k) : Sp__law_dice (P.call w k "_law_dice") := by
  obtain ⟨k, rfl⟩ : ∃ j, k = j + 1 := ⟨k - 1, by omega⟩
  rw [u__law_dice]
  exact s__law_dice (by obtain ⟨j, rfl⟩ : ∃ j, k = j + 1 := ⟨k - 1, by omega⟩; exact u__law_take w j)
theorem c__law_bad_dice {w k : Nat} (hw : 1 ≤ w) (hk : 2 ≤ k) : Sp__law_bad_dice (P.call w k "_law_bad_dice") := by
  obtain ⟨k, rfl⟩ : ∃ j, k = j + 1 := ⟨k - 1, by omega⟩
  rw [u__law_bad_dice]
  exact s__law_bad_dice (by obtain ⟨j, rfl⟩ : ∃ j, k = j + 1 := ⟨k - 1, by omega⟩; exact u__law_take w j)
theorem c__law_malformed28 {w k : Nat} (hw : 1 ≤ w) (hk : 5 ≤ k) : Sp__law_malformed28 (P.call w k "_law_malformed") := by
  obtain ⟨k, rfl⟩ : ∃ j, k = j + 1 := ⟨k - 1, by omega⟩
  rw [u__law_malformed]
  exact s__law_malformed28 (c_stays_with hw (by omega))
theorem c__law_nearB {w k : Nat} (hw : 1 ≤ w) (hk : 2 ≤ k) : Sp__law_nearB (P.call w k "_law_near") := by
  obtain ⟨k, rfl⟩ : ∃ j, k = j + 1 := ⟨k - 1, by omega⟩
  rw [u__law_near]
  exact s__law_nearB hw (by obtain ⟨j, rfl⟩ : ∃ j, k = j + 1 := ⟨k - 1, by omega⟩; exact u__law_take w j)
theorem c__law_pairB {w k : Nat} (hw : 1 ≤ w) (hk : 3 ≤ k) : Sp__law_pairB (P.call w k "_law_pair") := by
  obtain ⟨k, rfl⟩ : ∃ j, k = j + 1 := ⟨k - 1, by omega⟩
  rw [u__law_pair]
  exact s__law_pairB (by obtain ⟨j, rfl⟩ : ∃ j, k = j + 1 := ⟨k - 1, by omega⟩; exact u__law_take w j) (c__law_dice hw (by omega)) (c__law_nearB hw (by omega))
theorem c__law_together {w k : Nat} (hw : 1 ≤ w) (hk : 1 ≤ k) : Sp__law_together (P.call w k "_law_together") := by
  obtain ⟨k, rfl⟩ : ∃ j, k = j + 1 := ⟨k - 1, by omega⟩
  rw [u__law_together]
  exact s__law_together 
theorem c__law_ratios {w k : Nat} (hw : 1 ≤ w) (hk : 1 ≤ k) : Sp__law_ratios (P.call w k "_law_ratios") := by
  obtain ⟨k, rfl⟩ : ∃ j, k = j + 1 := ⟨k - 1, by omega⟩
  rw [u__law_ratios]
  exact s__law_ratios 
theorem c__law_all_at_most {w k : Nat} (hw : 1 ≤ w) (hk : 1 ≤ k) : Sp__law_all_at_most (P.call w k "_law_all_at_most") := by
  obtain ⟨k, rfl⟩ : ∃ j, k = j + 1 := ⟨k - 1, by omega⟩
  rw [u__law_all_at_most]
  exact s__law_all_at_most 
theorem c__law_at_most {w k : Nat} (hw : 1 ≤ w) (hk : 2 ≤ k) : Sp__law_at_most (P.call w k "_law_at_most") := by
  obtain ⟨k, rfl⟩ : ∃ j, k = j + 1 := ⟨k - 1, by omega⟩
  rw [u__law_at_most]
  exact s__law_at_most (c__law_together hw (by omega)) (c__law_tails hw (by omega)) (c__law_heads hw (by omega)) (c__law_ratios hw (by omega)) (c__law_all_at_most hw (by omega))
theorem c__law_least_row {w k : Nat} (hw : 1 ≤ w) (hk : 1 ≤ k) : Sp__law_least_row (P.call w k "_law_least_row") := by
  obtain ⟨k, rfl⟩ : ∃ j, k = j + 1 := ⟨k - 1, by omega⟩
  rw [u__law_least_row]
  exact s__law_least_row hw
theorem c__law_done {w k : Nat} (hw : 1 ≤ w) (hk : 2 ≤ k) : Sp__law_done (P.call w k "_law_done") := by
  obtain ⟨k, rfl⟩ : ∃ j, k = j + 1 := ⟨k - 1, by omega⟩
  rw [u__law_done]
  exact s__law_done (c__law_least_row hw (by omega))
theorem law_runs (w : Nat) (hw : 1 ≤ w) {s : DS} (hs : OkS s) : (S_law (P.call w 5) w (startL nLaw.length) s).sat fun fl _ => ∃ o, fl = .ret (.bool true) o := run_law (u__law_take w 4) (c_stays_with hw (by omega)) (c__law_condition hw (by omega)) (c__law_even hw (by omega)) (c__law_dice hw (by omega)) (c__law_bad_dice hw (by omega)) (c__law_malformed28 hw (by omega)) (c__law_pairB hw (by omega)) (c__law_at_most hw (by omega)) (c__law_done hw (by omega)) hs
-- level 5
end Py

set_option Elab.async false
set_option linter.all false
set_option maxRecDepth 100000
set_option maxHeartbeats 1000000
namespace Py
open PySem PySem.Spec PyProof.Rows L2
abbrev sTake : Stmt := top 17
theorem scTake : FnScope ["draw", "many", "found"] ["draw", "many"] (defScope sTake) := ⟨rfl, rfl, rfl, by decide +kernel, rfl, by decide +kernel, by decide +kernel⟩
section
variable {U : Wd}
theorem ok_take {f : Addr} {fd : FuncData} (F : L2.Fun U.K "_law_take" "_law_take" sTake f fd) (ml : U.mg "len" = none) (mi : U.mg "int" = none) :
    FnOk U.P U.w U.K U.mg U.base (L2.CX U.P U.w) 1 f fd ["draw", "many"] (spF U (fun _ => takeP) ⟨false, true⟩ "_law_take" 2) := by
  refine F.okX scTake (fun vs H Q E h => h.1) (fun cdv A outer s0 H vs Q E hr h => ?_)
  obtain ⟨_, ow, s, ds, hk, hcl, r, w⟩ := h
  obtain ⟨n, rfl, hn, w⟩ : ∃ n, ds = [.dict [(.none, .none)], .int n] ∧ (0 < n ∧ n.natAbs.log2 < 9000 ∧ -1 ≤ s.at_ ∧ 0 ≤ s.seed ∧ s.seed < 2147483647) ∧ Wp (take n) s (PostE U ow (fun d => false && isL d) H Q) (PostXE U E H) := by
    have w' : Wp (takeP ds) s (PostE U ow (fun d => false && isL d) H Q) (PostXE U E H) := w
    clear w
    unfold takeP at w'
    split at w'
    · rename_i n
      refine ⟨n, rfl, ?_, w'⟩
      unfold Wp take at w'
      by_cases hc : 0 < n ∧ n.natAbs.log2 < 9000 ∧ -1 ≤ s.at_ ∧ 0 ≤ s.seed ∧ s.seed < 2147483647
      · exact hc
      · rw [if_neg hc] at w'; exact w'.elim
    · exact w'.of_fail.elim
  obtain ⟨h1, h2, h3, h4, h5⟩ := hn
  have ⟨rowH, cellH, hne⟩ := hk.cap
  obtain ⟨u, r1, rfl, rv1, r⟩ : ∃ u r1, vs = u :: r1 ∧ Rp U ow H (.dict [(.none, .none)]) u ∧ RpL U ow H [.int n] r1 := by unfold RpL at r; exact r
  obtain ⟨u2, r2, rfl, rv2, r⟩ : ∃ u r3, r1 = u :: r3 ∧ Rp U ow H (.int n) u ∧ RpL U ow H [] r3 := by unfold RpL at r; exact r
  unfold RpL at r
  subst r
  unfold Rp at rv1 rv2
  have rv1 : u = .ref U.cap := by
    rcases rv1 with ⟨_, e⟩ | ⟨a, xs, e, _, rd⟩
    · exact e
    · unfold RpD at rd
      obtain ⟨_, _, _, _, hk, _⟩ := rd
      cases hk
  subst rv1
  subst rv2
  refine ⟨_, pss_cons (ps_if (pt_cmpR op_eq (pe_ix ix_list (pv 0) pe_int fun _ _ => rfl) pe_int (nomark _))
      (pss_cons (ps_asg (pe_op op_add (pe_ix ix_list (pv 0) pe_int fun _ _ => rfl) pe_int) (pg_sub (pv 0) pe_int set_list))
      (pss_cons (ps_if (pt_cmpR op_lt (pe_ix ix_list (pv 0) pe_int fun _ _ => rfl) (pe_callB call_len_seq rfl ml PySem.boot_len (pa_cons (pe_ix ix_list (pv 0) pe_int fun _ _ => rfl) pa_nil)) (nomark _))
        (pss_one (ps_asg (pe_ix ix_list (pe_ix ix_list (pv 0) pe_int fun _ _ => rfl) (pe_ix ix_list (pv 0) pe_int fun _ _ => rfl) fun _ _ => rfl) (pg_sub (pv 0) pe_int set_list))) pss_nil)
      (pss_one (ps_if (pt_cmpR op_eq (pe_ix ix_list (pv 0) pe_int fun _ _ => rfl) pe_int (nomark _))
        (pss_cons (ps_asg (pe_op op_mod (pe_callTy call_int1 rfl mi (by decide +kernel) (pa_cons (pe_op op_add (pe_op op_mulW (pe_ix ix_list (pv 0) pe_int fun _ _ => rfl) pe_int) pe_int) pa_nil)) pe_int) (pg_sub (pv 0) pe_int set_list))
        (pss_one (ps_asg (pe_ix ix_list (pv 0) pe_int fun _ _ => rfl) (pg_sub (pv 0) pe_int set_list)))) pss_nil)))) pss_nil)
    (pss_cons (ps_set (i := 2) scTake.nd rfl (Or.inl rfl) (pe_op op_mod (pe_callTy call_int1 rfl mi (by decide +kernel) (pa_cons (pe_ix ix_list (pv 0) pe_int fun _ _ => rfl) pa_nil)) (pv 1)))
    (pss_cons (ps_asg (pe_op op_fdivW (pe_ix ix_list (pv 0) pe_int fun _ _ => rfl) (pv 1)) (pg_sub (pv 0) pe_int set_list))
    (pss_one (ps_ret (pv 2))))), ?_⟩
  have ix0 : ∀ (xs : List V) (v : V) (i : Int) (n : Nat), i = n → xs[n]? = some v → atI xs i = some v := fun xs v i n e h => by subst e; exact atI_nat h
  have w2 : PostE U ow (fun d => false && isL d) H Q (.int ((nextS s).cur % n)) { nextS s with cur := (nextS s).cur / n } := by
    have w' := w
    unfold Wp take at w'
    rw [if_pos ⟨h1, h2, h3, h4, h5⟩] at w'
    exact w'
  clear w
  have fin : ∀ (H' : Hp) (a c sd : Int), H' U.cap = some (.lst [.ref U.cell, .int a, .int c, .int sd]) → Ext U H H' → PostE U ow (fun d => false && isL d) H Q (.int (c % n)) ⟨s.cells, a, c / n, sd⟩ → Q (.int (c % n)) (upd H' U.cap (.lst [.ref U.cell, .int a, .int (c / n), .int sd])) := fun H' a c sd r e q =>
    q _ _ (fun b u hb z => by rw [upd_ne hb]; exact e b u hb z) ⟨upd_same, by rw [upd_ne hne]; exact e _ _ hne cellH, hne⟩ Rp.int fun z => by simp at z
  refine ⟨_, rfl, U.cap, _, _, _, rfl, rfl, SqL.of_eq rowH, ix0 _ _ _ 2 rfl rfl, rfl, _, rfl, ?_⟩
  refine ite2 (fun c => ?_) (fun c => ?_)
  · have hc : s.cur = 0 := by have z := of_decide_eq_true c; simpa using z
    have b1 : U.cell ≠ U.cap := hne
    refine ⟨_, rfl, U.cap, _, _, _, rfl, rfl, SqL.of_eq rowH, ix0 _ _ _ 1 rfl rfl, _, _, rfl, rfl, _, rfl, U.cap, _, _, 1, rfl, rfl, rowH, rfl, ?_⟩
    have r1 : upd H U.cap (.lst [.ref U.cell, .int (s.at_ + 1), .int s.cur, .int s.seed]) U.cap = _ := upd_same
    have e1 : Ext U H (upd H U.cap (.lst [.ref U.cell, .int (s.at_ + 1), .int s.cur, .int s.seed])) := fun b u hb z => by rw [upd_ne hb]; exact z
    refine ⟨_, rfl, U.cap, _, _, _, rfl, rfl, SqL.of_eq r1, ix0 _ _ _ 1 rfl rfl, _, rfl, U.cap, _, _, _, rfl, rfl, SqL.of_eq r1, ix0 _ _ _ 0 rfl rfl, U.cell, _, rfl, .inl (SqL.of_eq (e1 _ _ hne cellH)), _, _, rfl, rfl, _, rfl, ?_⟩
    have cm : CMulW s.seed 48271 := by
      unfold CMulW
      have a1 : s.seed.natAbs < 2 ^ 31 := by omega
      have a2 := PySem.Flt.log2_lt_of (by decide) a1
      have a3 : (48271 : Int).natAbs.log2 = 15 := by decide +kernel
      omega
    refine ite2 (fun c1 => ?_) (fun c1 => ?_)
    · have hl : s.at_ + 1 < (s.cells.length : Int) := by have z := of_decide_eq_true c1; simpa using z
      have hx : (s.at_ + 1).toNat < s.cells.length := by omega
      have hg : s.cells.getD (s.at_ + 1).toNat 0 = s.cells[(s.at_ + 1).toNat] := by rw [List.getD_eq_getElem?_getD, List.getElem?_eq_getElem hx]; rfl
      have ha : atI (s.cells.map V.int) (s.at_ + 1) = some (.int (s.cells.getD (s.at_ + 1).toNat 0)) := ix0 _ _ _ (s.at_ + 1).toNat (by omega) (by rw [List.getElem?_map, List.getElem?_eq_getElem hx, hg]; rfl)
      refine ⟨_, rfl, U.cap, _, _, _, rfl, rfl, SqL.of_eq r1, ix0 _ _ _ 0 rfl rfl, _, rfl, U.cap, _, _, _, rfl, rfl, SqL.of_eq r1, ix0 _ _ _ 1 rfl rfl, U.cell, _, _, _, rfl, rfl, SqL.of_eq (e1 _ _ hne cellH), ha, _, rfl, U.cap, _, _, 2, rfl, rfl, r1, rfl, ?_⟩
      have r2 : upd (upd H U.cap (.lst [.ref U.cell, .int (s.at_ + 1), .int s.cur, .int s.seed])) U.cap (.lst [.ref U.cell, .int (s.at_ + 1), .int (s.cells.getD (s.at_ + 1).toNat 0), .int s.seed]) U.cap = _ := upd_same
      have e2 : Ext U H (upd (upd H U.cap (.lst [.ref U.cell, .int (s.at_ + 1), .int s.cur, .int s.seed])) U.cap (.lst [.ref U.cell, .int (s.at_ + 1), .int (s.cells.getD (s.at_ + 1).toNat 0), .int s.seed])) := fun b u hb z => by rw [upd_ne hb]; exact e1 b u hb z
      refine ⟨_, rfl, U.cap, _, _, _, rfl, rfl, SqL.of_eq r2, ix0 _ _ _ 2 rfl rfl, rfl, _, rfl, ?_⟩
      refine ite2 (fun c2 => ?_) (fun c2 => ?_)
      · have hg0 : (s.cells.getD (s.at_ + 1).toNat 0) = 0 := by have z := of_decide_eq_true c2; exact V.int.inj z
        have e : nextS s = ⟨s.cells, s.at_ + 1, (s.seed * 48271 + 11) % 2147483647, (s.seed * 48271 + 11) % 2147483647⟩ := by
          unfold nextS
          rw [if_pos hc, if_neg (fun z => z.2 hg0)]
        rw [e] at w2
        have r3 : upd (upd (upd H U.cap (.lst [.ref U.cell, .int (s.at_ + 1), .int s.cur, .int s.seed])) U.cap (.lst [.ref U.cell, .int (s.at_ + 1), .int (s.cells.getD (s.at_ + 1).toNat 0), .int s.seed])) U.cap (.lst [.ref U.cell, .int (s.at_ + 1), .int (s.cells.getD (s.at_ + 1).toNat 0), .int ((s.seed * 48271 + 11) % 2147483647)]) U.cap = _ := upd_same
        have e3 : Ext U H (upd (upd (upd H U.cap (.lst [.ref U.cell, .int (s.at_ + 1), .int s.cur, .int s.seed])) U.cap (.lst [.ref U.cell, .int (s.at_ + 1), .int (s.cells.getD (s.at_ + 1).toNat 0), .int s.seed])) U.cap (.lst [.ref U.cell, .int (s.at_ + 1), .int (s.cells.getD (s.at_ + 1).toNat 0), .int ((s.seed * 48271 + 11) % 2147483647)])) := fun b u hb z => by rw [upd_ne hb]; exact e2 b u hb z
        refine ⟨_, rfl, U.cap, _, _, _, rfl, rfl, SqL.of_eq r2, ix0 _ _ _ 3 rfl rfl, _, _, rfl, rfl, cm, _, _, rfl, rfl, .inl ⟨_, rfl, _, _, rfl, rfl, by show (0 : Int) < 2147483647; decide, _, rfl, U.cap, _, _, 3, rfl, rfl, r2, rfl, ?_⟩⟩
        refine ⟨_, rfl, U.cap, _, _, _, rfl, rfl, SqL.of_eq r3, ix0 _ _ _ 3 rfl rfl, _, rfl, U.cap, _, _, 2, rfl, rfl, r3, rfl, ?_⟩
        have r4 : upd (upd (upd (upd H U.cap (.lst [.ref U.cell, .int (s.at_ + 1), .int s.cur, .int s.seed])) U.cap (.lst [.ref U.cell, .int (s.at_ + 1), .int (s.cells.getD (s.at_ + 1).toNat 0), .int s.seed])) U.cap (.lst [.ref U.cell, .int (s.at_ + 1), .int (s.cells.getD (s.at_ + 1).toNat 0), .int ((s.seed * 48271 + 11) % 2147483647)])) U.cap (.lst [.ref U.cell, .int (s.at_ + 1), .int ((s.seed * 48271 + 11) % 2147483647), .int ((s.seed * 48271 + 11) % 2147483647)]) U.cap = _ := upd_same
        have e4 : Ext U H (upd (upd (upd (upd H U.cap (.lst [.ref U.cell, .int (s.at_ + 1), .int s.cur, .int s.seed])) U.cap (.lst [.ref U.cell, .int (s.at_ + 1), .int (s.cells.getD (s.at_ + 1).toNat 0), .int s.seed])) U.cap (.lst [.ref U.cell, .int (s.at_ + 1), .int (s.cells.getD (s.at_ + 1).toNat 0), .int ((s.seed * 48271 + 11) % 2147483647)])) U.cap (.lst [.ref U.cell, .int (s.at_ + 1), .int ((s.seed * 48271 + 11) % 2147483647), .int ((s.seed * 48271 + 11) % 2147483647)])) := fun b u hb z => by rw [upd_ne hb]; exact e3 b u hb z
        refine ⟨_, rfl, U.cap, _, _, _, rfl, rfl, SqL.of_eq r4, ix0 _ _ _ 2 rfl rfl, .inl ⟨_, rfl, _, rfl, _, _, rfl, rfl, h1, ?_⟩⟩
        refine ⟨_, rfl, U.cap, _, _, _, rfl, rfl, SqL.of_eq r4, ix0 _ _ _ 2 rfl rfl, _, rfl, _, _, rfl, rfl, ⟨h1, h2⟩, _, rfl, U.cap, _, _, 2, rfl, rfl, r4, rfl, _, rfl, ?_⟩
        exact fin _ _ _ _ r4 e4 w2

      · have hg0 : ¬ (s.cells.getD (s.at_ + 1).toNat 0) = 0 := fun z => c2 (decide_eq_true (congrArg V.int z))
        have e : nextS s = ⟨s.cells, s.at_ + 1, (s.cells.getD (s.at_ + 1).toNat 0), s.seed⟩ := by
          unfold nextS
          rw [if_pos hc, if_pos ⟨hl, hg0⟩]
        rw [e] at w2
        refine ⟨_, rfl, U.cap, _, _, _, rfl, rfl, SqL.of_eq r2, ix0 _ _ _ 2 rfl rfl, .inl ⟨_, rfl, _, rfl, _, _, rfl, rfl, h1, ?_⟩⟩
        refine ⟨_, rfl, U.cap, _, _, _, rfl, rfl, SqL.of_eq r2, ix0 _ _ _ 2 rfl rfl, _, rfl, _, _, rfl, rfl, ⟨h1, h2⟩, _, rfl, U.cap, _, _, 2, rfl, rfl, r2, rfl, _, rfl, ?_⟩
        exact fin _ _ _ _ r2 e2 w2
    · have hl : ¬ s.at_ + 1 < (s.cells.length : Int) := fun z => c1 (by rw [List.length_map]; exact decide_eq_true z)
      have e : nextS s = ⟨s.cells, s.at_ + 1, (s.seed * 48271 + 11) % 2147483647, (s.seed * 48271 + 11) % 2147483647⟩ := by
        unfold nextS
        rw [if_pos hc, if_neg (fun z => hl z.1)]
      rw [e] at w2
      refine ⟨_, rfl, U.cap, _, _, _, rfl, rfl, SqL.of_eq r1, ix0 _ _ _ 2 rfl rfl, rfl, _, rfl, ?_⟩
      refine ite2 (fun c2 => ?_) (fun c2 => absurd (decide_eq_true (congrArg V.int hc)) c2)
      have r3 : upd (upd H U.cap (.lst [.ref U.cell, .int (s.at_ + 1), .int s.cur, .int s.seed])) U.cap (.lst [.ref U.cell, .int (s.at_ + 1), .int s.cur, .int ((s.seed * 48271 + 11) % 2147483647)]) U.cap = _ := upd_same
      have e3 : Ext U H (upd (upd H U.cap (.lst [.ref U.cell, .int (s.at_ + 1), .int s.cur, .int s.seed])) U.cap (.lst [.ref U.cell, .int (s.at_ + 1), .int s.cur, .int ((s.seed * 48271 + 11) % 2147483647)])) := fun b u hb z => by rw [upd_ne hb]; exact e1 b u hb z
      refine ⟨_, rfl, U.cap, _, _, _, rfl, rfl, SqL.of_eq r1, ix0 _ _ _ 3 rfl rfl, _, _, rfl, rfl, cm, _, _, rfl, rfl, .inl ⟨_, rfl, _, _, rfl, rfl, by show (0 : Int) < 2147483647; decide, _, rfl, U.cap, _, _, 3, rfl, rfl, r1, rfl, ?_⟩⟩
      refine ⟨_, rfl, U.cap, _, _, _, rfl, rfl, SqL.of_eq r3, ix0 _ _ _ 3 rfl rfl, _, rfl, U.cap, _, _, 2, rfl, rfl, r3, rfl, ?_⟩
      have r4 : upd (upd (upd H U.cap (.lst [.ref U.cell, .int (s.at_ + 1), .int s.cur, .int s.seed])) U.cap (.lst [.ref U.cell, .int (s.at_ + 1), .int s.cur, .int ((s.seed * 48271 + 11) % 2147483647)])) U.cap (.lst [.ref U.cell, .int (s.at_ + 1), .int ((s.seed * 48271 + 11) % 2147483647), .int ((s.seed * 48271 + 11) % 2147483647)]) U.cap = _ := upd_same
      have e4 : Ext U H (upd (upd (upd H U.cap (.lst [.ref U.cell, .int (s.at_ + 1), .int s.cur, .int s.seed])) U.cap (.lst [.ref U.cell, .int (s.at_ + 1), .int s.cur, .int ((s.seed * 48271 + 11) % 2147483647)])) U.cap (.lst [.ref U.cell, .int (s.at_ + 1), .int ((s.seed * 48271 + 11) % 2147483647), .int ((s.seed * 48271 + 11) % 2147483647)])) := fun b u hb z => by rw [upd_ne hb]; exact e3 b u hb z
      refine ⟨_, rfl, U.cap, _, _, _, rfl, rfl, SqL.of_eq r4, ix0 _ _ _ 2 rfl rfl, .inl ⟨_, rfl, _, rfl, _, _, rfl, rfl, h1, ?_⟩⟩
      refine ⟨_, rfl, U.cap, _, _, _, rfl, rfl, SqL.of_eq r4, ix0 _ _ _ 2 rfl rfl, _, rfl, _, _, rfl, rfl, ⟨h1, h2⟩, _, rfl, U.cap, _, _, 2, rfl, rfl, r4, rfl, _, rfl, ?_⟩
      exact fin _ _ _ _ r4 e4 w2

  · have hc : ¬ s.cur = 0 := fun z => c (by rw [z]; rfl)
    have e : nextS s = s := by unfold nextS; rw [if_neg hc]
    rw [e] at w2
    refine ⟨_, rfl, U.cap, _, _, _, rfl, rfl, SqL.of_eq rowH, ix0 _ _ _ 2 rfl rfl, .inl ⟨_, rfl, _, rfl, _, _, rfl, rfl, h1, ?_⟩⟩
    refine ⟨_, rfl, U.cap, _, _, _, rfl, rfl, SqL.of_eq rowH, ix0 _ _ _ 2 rfl rfl, _, rfl, _, _, rfl, rfl, ⟨h1, h2⟩, _, rfl, U.cap, _, _, 2, rfl, rfl, rowH, rfl, _, rfl, ?_⟩
    exact fin H s.at_ s.cur s.seed rowH Ext.refl w2
end
abbrev sDraw : Stmt := top 16
theorem scDraw : FnScope ["script", "seed", "cell"] ["script"] (defScope sDraw) := ⟨rfl, rfl, rfl, by decide +kernel, rfl, by decide +kernel, by decide +kernel⟩
section
variable {P : Program} {w : World} {K : PySem.W.Frag} {mg : Str → Option Value} {base : Heap}
theorem ok_draw {f : Addr} {fd : FuncData} (F : L2.Fun K "_law_draw" "_law_draw" sDraw f fd) (ma : mg "abs" = none) (mi : mg "int" = none) : FnOk P w K mg base (L2.CX P w) 1 f fd ["script"] (spDraw K) := by
  refine F.okX scDraw (fun vs H Q E h => by obtain ⟨a, ns, rfl, _⟩ := h; rfl) (fun cdv A outer s0 H vs Q E hr h => ?_)
  obtain ⟨a, ns, rfl, hS, h63, q⟩ := h
  refine ⟨_, pss_cons (ps_set (i := 1) scDraw.nd rfl (Or.inl rfl) pe_int)
    (pss_cons (ps_for (passes_of rfl) rfl (pi_list (pv 0)) (pg_name (i := 2) scDraw.nd rfl (Or.inl rfl)) (pss_one (ps_set (i := 1) scDraw.nd rfl (Or.inl rfl)
      (pe_op op_mod (pe_callTy call_int1 rfl mi (by decide +kernel) (pa_cons (pe_op op_add (pe_op op_add (pe_op op_mulW (pv 1) pe_int) (pe_op op_mod (pe_callB call_abs rfl ma boot_abs (pa_cons (pe_callTy call_int1 rfl mi (by decide +kernel) (pa_cons (pv 2) pa_nil)) pa_nil)) pe_int)) pe_int) pa_nil)) pe_int))))
    (pss_one (ps_ret (pe_lst (pa_cons (pe_lc rfl scDraw.nd (pi_list (pv 0)) (own := [("cell", 2)]) (blkOk_by (by rfl)) (fun _ _ _ _ _ => pg_name (i := 2) scDraw.nd rfl (Or.inl rfl)) (fun _ _ _ _ _ => pts_nil) (fun _ _ _ _ _ => pe_callB call_abs rfl ma boot_abs (pa_cons (pe_callTy call_int1 rfl mi (by decide +kernel) (pa_cons (pv 2) pa_nil)) pa_nil)))
      (pa_cons (pe_un un_neg pe_int) (pa_cons pe_int (pa_cons (pv 1) pa_nil)))))))), ?_⟩
  refine ⟨_, rfl, a, rfl, ⟨_, hS⟩, for_list (xs := ns.map V.int) (fun i σ H' => H' = H ∧ ∃ sd x, 0 ≤ sd ∧ sd < 2147483647 ∧ σ = [some (.ref a), some (.int sd), x]) ⟨rfl, 7, none, by decide, by decide, rfl⟩ (fun i σ H' _ ⟨e, _⟩ => by rw [e]; exact hS) (fun i x σ H' hx ⟨e, sd, y, g0, g1, es⟩ => ?_) fun σ H' ⟨e, sd, y, g0, g1, es⟩ => ?_⟩
  · obtain ⟨n, hn, rfl⟩ : ∃ n, ns[i]? = some n ∧ V.int n = x := by rw [List.getElem?_map, Option.map_eq_some_iff] at hx; exact hx
    subst es
    have cm : CMulW sd 48271 := by
      unfold CMulW
      have a1 : sd.natAbs < 2 ^ 31 := by omega
      have a2 := PySem.Flt.log2_lt_of (by decide) a1
      have a3 : (48271 : Int).natAbs.log2 = 15 := by decide +kernel
      omega
    refine ⟨_, rfl, _, _, rfl, rfl, cm, _, rfl, .inl ⟨_, rfl, _, rfl, _, _, rfl, rfl, by show (0 : Int) < 65521; decide, _, _, rfl, rfl, _, _, rfl, rfl, .inl ⟨_, rfl, _, _, rfl, rfl, by show (0 : Int) < 2147483647; decide, e, _, _, ?_, ?_, rfl⟩⟩⟩
    · exact Int.emod_nonneg _ (by decide)
    · exact Int.emod_lt_of_pos _ (by decide)
  · subst es
    subst e
    refine ⟨_, rfl, a, rfl, ⟨_, hS⟩, fun c hc => lc_list (xs := ns.map V.int) (fun i H2 => H2 = upd H' c (.lst (((ns.take i).map fun n => if n < 0 then -n else n).map V.int))) rfl (fun i H2 _ e => ?_) (fun i x H2 hx e => ?_) fun H2 e => ?_⟩
    · rw [e]
      exact (show Same H' (upd H' c _) from fun b u z => by rw [upd_ne (ne_of_none z hc)]; exact z).seq hS
    · obtain ⟨n, hn, rfl⟩ : ∃ n, ns[i]? = some n ∧ V.int n = x := by rw [List.getElem?_map, Option.map_eq_some_iff] at hx; exact hx
      refine ⟨rfl, iteT (B := H2 = upd H' c (.lst (((ns.take (i + 1)).map fun n => if n < 0 then -n else n).map V.int))) ⟨_, rfl, .inl ⟨_, rfl, _, rfl, _, by rw [e]; exact upd_same, ?_, ?_⟩⟩⟩
      · rw [List.length_map, List.length_map, List.length_take]
        exact Nat.lt_of_lt_of_le (by omega : _ < 100) (by decide)
      · rw [e]
        have ht : ns.take (i + 1) = ns.take i ++ [n] := by
          rw [List.take_add_one, hn]; rfl
        rw [ht, List.map_append, List.map_append]
        exact upd_upd
    · have e : H2 = upd H' c (.lst ((ns.map fun n => if n < 0 then -n else n).map V.int)) := by rw [List.length_map, List.take_length] at e; exact e
      subst e
      refine ⟨_, rfl, _, rfl, by show 4 ≤ sizeLine; decide, fun p hp => ?_⟩
      have hpc : p ≠ c := fun z => by rw [z, upd_same] at hp; cases hp
      exact q p c _ sd hpc (fun b u hb => by rw [upd_ne (ne_of_none (by rw [upd_ne (ne_of_none hb hc)]; exact hb) hp), upd_ne (ne_of_none hb hc)]; exact hb) g0 g1 upd_same (by rw [upd_ne (fun z => hpc z.symm)]; exact upd_same)
end

theorem sc_is_whole : FnScope F_is_whole.N F_is_whole.ps (defScope (top 4)) := ⟨rfl, rfl, rfl, by decide +kernel, rfl, by decide +kernel, by decide +kernel⟩
theorem sc_is_draw : FnScope F_is_draw.N F_is_draw.ps (defScope (top 8)) := ⟨rfl, rfl, rfl, by decide +kernel, rfl, by decide +kernel, by decide +kernel⟩
theorem sc_check_draw : FnScope F_check_draw.N F_check_draw.ps (defScope (top 9)) := ⟨rfl, rfl, rfl, by decide +kernel, rfl, by decide +kernel, by decide +kernel⟩
theorem sc_tails : FnScope F_tails.N F_tails.ps (defScope (top 11)) := ⟨rfl, rfl, rfl, by decide +kernel, rfl, by decide +kernel, by decide +kernel⟩
theorem sc_heads : FnScope F_heads.N F_heads.ps (defScope (top 12)) := ⟨rfl, rfl, rfl, by decide +kernel, rfl, by decide +kernel, by decide +kernel⟩
theorem sc_stays_with : FnScope F_stays_with.N F_stays_with.ps (defScope (top 14)) := ⟨rfl, rfl, rfl, by decide +kernel, rfl, by decide +kernel, by decide +kernel⟩
theorem sc__law_dice : FnScope F__law_dice.N F__law_dice.ps (defScope (top 18)) := ⟨rfl, rfl, rfl, by decide +kernel, rfl, by decide +kernel, by decide +kernel⟩
theorem sc__law_near : FnScope F__law_near.N F__law_near.ps (defScope (top 19)) := ⟨rfl, rfl, rfl, by decide +kernel, rfl, by decide +kernel, by decide +kernel⟩
theorem sc__law_pair : FnScope F__law_pair.N F__law_pair.ps (defScope (top 20)) := ⟨rfl, rfl, rfl, by decide +kernel, rfl, by decide +kernel, by decide +kernel⟩
theorem sc__law_together : FnScope F__law_together.N F__law_together.ps (defScope (top 21)) := ⟨rfl, rfl, rfl, by decide +kernel, rfl, by decide +kernel, by decide +kernel⟩
theorem sc__law_tails : FnScope F__law_tails.N F__law_tails.ps (defScope (top 22)) := ⟨rfl, rfl, rfl, by decide +kernel, rfl, by decide +kernel, by decide +kernel⟩
theorem sc__law_heads : FnScope F__law_heads.N F__law_heads.ps (defScope (top 23)) := ⟨rfl, rfl, rfl, by decide +kernel, rfl, by decide +kernel, by decide +kernel⟩
theorem sc__law_ratios : FnScope F__law_ratios.N F__law_ratios.ps (defScope (top 24)) := ⟨rfl, rfl, rfl, by decide +kernel, rfl, by decide +kernel, by decide +kernel⟩
theorem sc__law_all_at_most : FnScope F__law_all_at_most.N F__law_all_at_most.ps (defScope (top 25)) := ⟨rfl, rfl, rfl, by decide +kernel, rfl, by decide +kernel, by decide +kernel⟩
theorem sc__law_at_most : FnScope F__law_at_most.N F__law_at_most.ps (defScope (top 26)) := ⟨rfl, rfl, rfl, by decide +kernel, rfl, by decide +kernel, by decide +kernel⟩
theorem sc__law_least_row : FnScope F__law_least_row.N F__law_least_row.ps (defScope (top 27)) := ⟨rfl, rfl, rfl, by decide +kernel, rfl, by decide +kernel, by decide +kernel⟩
theorem sc__law_done : FnScope F__law_done.N F__law_done.ps (defScope (top 28)) := ⟨rfl, rfl, rfl, by decide +kernel, rfl, by decide +kernel, by decide +kernel⟩
theorem sc__law_bad_dice : FnScope F__law_bad_dice.N F__law_bad_dice.ps (defScope (top 30)) := ⟨rfl, rfl, rfl, by decide +kernel, rfl, by decide +kernel, by decide +kernel⟩
theorem sc__law_condition : FnScope F__law_condition.N F__law_condition.ps (defScope (top 31)) := ⟨rfl, rfl, rfl, by decide +kernel, rfl, by decide +kernel, by decide +kernel⟩
theorem sc__law_even : FnScope F__law_even.N F__law_even.ps (defScope (top 32)) := ⟨rfl, rfl, rfl, by decide +kernel, rfl, by decide +kernel, by decide +kernel⟩
theorem sc__law_malformed : FnScope F__law_malformed.N F__law_malformed.ps (defScope (top 33)) := ⟨rfl, rfl, rfl, by decide +kernel, rfl, by decide +kernel, by decide +kernel⟩
theorem sc_law : FnScope nLaw ["script"] (defScope (top 34)) := ⟨rfl, rfl, rfl, by decide +kernel, rfl, by decide +kernel, by decide +kernel⟩
/-- what the top leaves -/
structure AllIn (K : PySem.W.Frag) : Prop where
  d_is_whole : DefIn K "is_whole" (top 4)
  d_is_draw : DefIn K "is_draw" (top 8)
  d_check_draw : DefIn K "check_draw" (top 9)
  d_tails : DefIn K "tails" (top 11)
  d_heads : DefIn K "heads" (top 12)
  d_stays_with : DefIn K "stays_with" (top 14)
  d__law_dice : DefIn K "_law_dice" (top 18)
  d__law_near : DefIn K "_law_near" (top 19)
  d__law_pair : DefIn K "_law_pair" (top 20)
  d__law_together : DefIn K "_law_together" (top 21)
  d__law_tails : DefIn K "_law_tails" (top 22)
  d__law_heads : DefIn K "_law_heads" (top 23)
  d__law_ratios : DefIn K "_law_ratios" (top 24)
  d__law_all_at_most : DefIn K "_law_all_at_most" (top 25)
  d__law_at_most : DefIn K "_law_at_most" (top 26)
  d__law_least_row : DefIn K "_law_least_row" (top 27)
  d__law_done : DefIn K "_law_done" (top 28)
  d__law_bad_dice : DefIn K "_law_bad_dice" (top 30)
  d__law_condition : DefIn K "_law_condition" (top 31)
  d__law_even : DefIn K "_law_even" (top 32)
  d__law_malformed : DefIn K "_law_malformed" (top 33)
  d_take : DefIn K "_law_take" (top 17)
  d_draw : DefIn K "_law_draw" (top 16)
  d_law : DefIn K "law" (top 34)
  b_abs : PySem.W.nsIn K mainGlobals "abs" = some none
  b_all : PySem.W.nsIn K mainGlobals "all" = some none
  b_bool : PySem.W.nsIn K mainGlobals "bool" = some none
  b_int : PySem.W.nsIn K mainGlobals "int" = some none
  b_isinstance : PySem.W.nsIn K mainGlobals "isinstance" = some none
  b_len : PySem.W.nsIn K mainGlobals "len" = some none
  b_list : PySem.W.nsIn K mainGlobals "list" = some none
  b_max : PySem.W.nsIn K mainGlobals "max" = some none
  b_min : PySem.W.nsIn K mainGlobals "min" = some none
  b_range : PySem.W.nsIn K mainGlobals "range" = some none
  b_str : PySem.W.nsIn K mainGlobals "str" = some none
  b_sum : PySem.W.nsIn K mainGlobals "sum" = some none
  b_tuple : PySem.W.nsIn K mainGlobals "tuple" = some none
  c_MOST_NUMBER : ∃ u, PySem.W.nsIn K mainGlobals "MOST_NUMBER" = some (some u) ∧ ItIn K (.int 30) u
  c_MOST_WEIGHT : ∃ u, PySem.W.nsIn K mainGlobals "MOST_WEIGHT" = some (some u) ∧ ItIn K (.int 1000000) u
  bVE : PySem.W.nsIn K mainGlobals "ValueError" = some none
  ex : ∃ CF : Addr, PySem.W.nsIn K mainGlobals "Fault" = some (some (.ref CF)) ∧ PySem.W.hasDictIn K CF = true ∧ PySem.W.typeIn K (.ref CF) = some (.type "type") ∧
    ∃ C_Malformed : Addr, ExIn K "Malformed" C_Malformed ∧ PySem.W.subIn K (.ref C_Malformed) (.ref CF) = some true ∧ PySem.W.subIn K (.ref C_Malformed) (.type "ValueError") = some true ∧ PySem.W.subIn K (.ref C_Malformed) (.ref C_Malformed) = some true
theorem ex_mk {K : PySem.W.Frag} {CF C_Malformed : Addr} (aF : PySem.W.nsIn K mainGlobals "Fault" = some (some (.ref CF))) (dF : PySem.W.hasDictIn K CF = true) (tF : PySem.W.typeIn K (.ref CF) = some (.type "type"))
    (e_Malformed : ExIn K "Malformed" C_Malformed) (f_Malformed : PySem.W.subIn K (.ref C_Malformed) (.ref CF) = some true) (v_Malformed : PySem.W.subIn K (.ref C_Malformed) (.type "ValueError") = some true) (s_Malformed_Malformed : PySem.W.subIn K (.ref C_Malformed) (.ref C_Malformed) = some true) : ∃ CF : Addr, PySem.W.nsIn K mainGlobals "Fault" = some (some (.ref CF)) ∧ PySem.W.hasDictIn K CF = true ∧ PySem.W.typeIn K (.ref CF) = some (.type "type") ∧
    ∃ C_Malformed : Addr, ExIn K "Malformed" C_Malformed ∧ PySem.W.subIn K (.ref C_Malformed) (.ref CF) = some true ∧ PySem.W.subIn K (.ref C_Malformed) (.type "ValueError") = some true ∧ PySem.W.subIn K (.ref C_Malformed) (.ref C_Malformed) = some true :=
  ⟨CF, aF, dF, tF, C_Malformed, e_Malformed, f_Malformed, v_Malformed, s_Malformed_Malformed⟩
section
variable {P0 : Program} {w : World} {K : PySem.W.Frag} {mg : Str → Option Value} {h base : Heap}
theorem bd_is_whole (kV doc pm : Value) (an : Option Addr) (cdv ct : Value) (us : List Value) (hl : us.length = (F_is_whole.ps : List Str).length) : bindArgs (PySem.W.fnOf "is_whole" "is_whole" (defArgs (top 4)) (defBody (top 4)) (defScope (top 4)) .none kV doc pm an cdv ct) ⟨us, []⟩ = pure ((F_is_whole.ps : List Str).zip us) := match us, hl with | [_], _ => rfl
theorem bd_is_draw (kV doc pm : Value) (an : Option Addr) (cdv ct : Value) (us : List Value) (hl : us.length = (F_is_draw.ps : List Str).length) : bindArgs (PySem.W.fnOf "is_draw" "is_draw" (defArgs (top 8)) (defBody (top 8)) (defScope (top 8)) .none kV doc pm an cdv ct) ⟨us, []⟩ = pure ((F_is_draw.ps : List Str).zip us) := match us, hl with | [_], _ => rfl
theorem bd_check_draw (kV doc pm : Value) (an : Option Addr) (cdv ct : Value) (us : List Value) (hl : us.length = (F_check_draw.ps : List Str).length) : bindArgs (PySem.W.fnOf "check_draw" "check_draw" (defArgs (top 9)) (defBody (top 9)) (defScope (top 9)) .none kV doc pm an cdv ct) ⟨us, []⟩ = pure ((F_check_draw.ps : List Str).zip us) := match us, hl with | [_], _ => rfl
theorem bd_tails (kV doc pm : Value) (an : Option Addr) (cdv ct : Value) (us : List Value) (hl : us.length = (F_tails.ps : List Str).length) : bindArgs (PySem.W.fnOf "tails" "tails" (defArgs (top 11)) (defBody (top 11)) (defScope (top 11)) .none kV doc pm an cdv ct) ⟨us, []⟩ = pure ((F_tails.ps : List Str).zip us) := match us, hl with | [_], _ => rfl
theorem bd_heads (kV doc pm : Value) (an : Option Addr) (cdv ct : Value) (us : List Value) (hl : us.length = (F_heads.ps : List Str).length) : bindArgs (PySem.W.fnOf "heads" "heads" (defArgs (top 12)) (defBody (top 12)) (defScope (top 12)) .none kV doc pm an cdv ct) ⟨us, []⟩ = pure ((F_heads.ps : List Str).zip us) := match us, hl with | [_], _ => rfl
theorem bd_stays_with (kV doc pm : Value) (an : Option Addr) (cdv ct : Value) (us : List Value) (hl : us.length = (F_stays_with.ps : List Str).length) : bindArgs (PySem.W.fnOf "stays_with" "stays_with" (defArgs (top 14)) (defBody (top 14)) (defScope (top 14)) .none kV doc pm an cdv ct) ⟨us, []⟩ = pure ((F_stays_with.ps : List Str).zip us) := match us, hl with | [_, _], _ => rfl
theorem bd__law_dice (kV doc pm : Value) (an : Option Addr) (cdv ct : Value) (us : List Value) (hl : us.length = (F__law_dice.ps : List Str).length) : bindArgs (PySem.W.fnOf "_law_dice" "_law_dice" (defArgs (top 18)) (defBody (top 18)) (defScope (top 18)) .none kV doc pm an cdv ct) ⟨us, []⟩ = pure ((F__law_dice.ps : List Str).zip us) := match us, hl with | [_, _, _], _ => rfl
theorem bd__law_near (kV doc pm : Value) (an : Option Addr) (cdv ct : Value) (us : List Value) (hl : us.length = (F__law_near.ps : List Str).length) : bindArgs (PySem.W.fnOf "_law_near" "_law_near" (defArgs (top 19)) (defBody (top 19)) (defScope (top 19)) .none kV doc pm an cdv ct) ⟨us, []⟩ = pure ((F__law_near.ps : List Str).zip us) := match us, hl with | [_, _, _, _], _ => rfl
theorem bd__law_pair (kV doc pm : Value) (an : Option Addr) (cdv ct : Value) (us : List Value) (hl : us.length = (F__law_pair.ps : List Str).length) : bindArgs (PySem.W.fnOf "_law_pair" "_law_pair" (defArgs (top 20)) (defBody (top 20)) (defScope (top 20)) .none kV doc pm an cdv ct) ⟨us, []⟩ = pure ((F__law_pair.ps : List Str).zip us) := match us, hl with | [_, _, _], _ => rfl
theorem bd__law_together (kV doc pm : Value) (an : Option Addr) (cdv ct : Value) (us : List Value) (hl : us.length = (F__law_together.ps : List Str).length) : bindArgs (PySem.W.fnOf "_law_together" "_law_together" (defArgs (top 21)) (defBody (top 21)) (defScope (top 21)) .none kV doc pm an cdv ct) ⟨us, []⟩ = pure ((F__law_together.ps : List Str).zip us) := match us, hl with | [_, _], _ => rfl
theorem bd__law_tails (kV doc pm : Value) (an : Option Addr) (cdv ct : Value) (us : List Value) (hl : us.length = (F__law_tails.ps : List Str).length) : bindArgs (PySem.W.fnOf "_law_tails" "_law_tails" (defArgs (top 22)) (defBody (top 22)) (defScope (top 22)) .none kV doc pm an cdv ct) ⟨us, []⟩ = pure ((F__law_tails.ps : List Str).zip us) := match us, hl with | [_], _ => rfl
theorem bd__law_heads (kV doc pm : Value) (an : Option Addr) (cdv ct : Value) (us : List Value) (hl : us.length = (F__law_heads.ps : List Str).length) : bindArgs (PySem.W.fnOf "_law_heads" "_law_heads" (defArgs (top 23)) (defBody (top 23)) (defScope (top 23)) .none kV doc pm an cdv ct) ⟨us, []⟩ = pure ((F__law_heads.ps : List Str).zip us) := match us, hl with | [_], _ => rfl
theorem bd__law_ratios (kV doc pm : Value) (an : Option Addr) (cdv ct : Value) (us : List Value) (hl : us.length = (F__law_ratios.ps : List Str).length) : bindArgs (PySem.W.fnOf "_law_ratios" "_law_ratios" (defArgs (top 24)) (defBody (top 24)) (defScope (top 24)) .none kV doc pm an cdv ct) ⟨us, []⟩ = pure ((F__law_ratios.ps : List Str).zip us) := match us, hl with | [_, _], _ => rfl
theorem bd__law_all_at_most (kV doc pm : Value) (an : Option Addr) (cdv ct : Value) (us : List Value) (hl : us.length = (F__law_all_at_most.ps : List Str).length) : bindArgs (PySem.W.fnOf "_law_all_at_most" "_law_all_at_most" (defArgs (top 25)) (defBody (top 25)) (defScope (top 25)) .none kV doc pm an cdv ct) ⟨us, []⟩ = pure ((F__law_all_at_most.ps : List Str).zip us) := match us, hl with | [_, _], _ => rfl
theorem bd__law_at_most (kV doc pm : Value) (an : Option Addr) (cdv ct : Value) (us : List Value) (hl : us.length = (F__law_at_most.ps : List Str).length) : bindArgs (PySem.W.fnOf "_law_at_most" "_law_at_most" (defArgs (top 26)) (defBody (top 26)) (defScope (top 26)) .none kV doc pm an cdv ct) ⟨us, []⟩ = pure ((F__law_at_most.ps : List Str).zip us) := match us, hl with | [_, _, _], _ => rfl
theorem bd__law_least_row (kV doc pm : Value) (an : Option Addr) (cdv ct : Value) (us : List Value) (hl : us.length = (F__law_least_row.ps : List Str).length) : bindArgs (PySem.W.fnOf "_law_least_row" "_law_least_row" (defArgs (top 27)) (defBody (top 27)) (defScope (top 27)) .none kV doc pm an cdv ct) ⟨us, []⟩ = pure ((F__law_least_row.ps : List Str).zip us) := match us, hl with | [_], _ => rfl
theorem bd__law_done (kV doc pm : Value) (an : Option Addr) (cdv ct : Value) (us : List Value) (hl : us.length = (F__law_done.ps : List Str).length) : bindArgs (PySem.W.fnOf "_law_done" "_law_done" (defArgs (top 28)) (defBody (top 28)) (defScope (top 28)) .none kV doc pm an cdv ct) ⟨us, []⟩ = pure ((F__law_done.ps : List Str).zip us) := match us, hl with | [_, _, _], _ => rfl
theorem bd__law_bad_dice (kV doc pm : Value) (an : Option Addr) (cdv ct : Value) (us : List Value) (hl : us.length = (F__law_bad_dice.ps : List Str).length) : bindArgs (PySem.W.fnOf "_law_bad_dice" "_law_bad_dice" (defArgs (top 30)) (defBody (top 30)) (defScope (top 30)) .none kV doc pm an cdv ct) ⟨us, []⟩ = pure ((F__law_bad_dice.ps : List Str).zip us) := match us, hl with | [_, _], _ => rfl
theorem bd__law_condition (kV doc pm : Value) (an : Option Addr) (cdv ct : Value) (us : List Value) (hl : us.length = (F__law_condition.ps : List Str).length) : bindArgs (PySem.W.fnOf "_law_condition" "_law_condition" (defArgs (top 31)) (defBody (top 31)) (defScope (top 31)) .none kV doc pm an cdv ct) ⟨us, []⟩ = pure ((F__law_condition.ps : List Str).zip us) := match us, hl with | [_, _], _ => rfl
theorem bd__law_even (kV doc pm : Value) (an : Option Addr) (cdv ct : Value) (us : List Value) (hl : us.length = (F__law_even.ps : List Str).length) : bindArgs (PySem.W.fnOf "_law_even" "_law_even" (defArgs (top 32)) (defBody (top 32)) (defScope (top 32)) .none kV doc pm an cdv ct) ⟨us, []⟩ = pure ((F__law_even.ps : List Str).zip us) := match us, hl with | [_], _ => rfl
theorem bd__law_malformed (kV doc pm : Value) (an : Option Addr) (cdv ct : Value) (us : List Value) (hl : us.length = (F__law_malformed.ps : List Str).length) : bindArgs (PySem.W.fnOf "_law_malformed" "_law_malformed" (defArgs (top 33)) (defBody (top 33)) (defScope (top 33)) .none kV doc pm an cdv ct) ⟨us, []⟩ = pure ((F__law_malformed.ps : List Str).zip us) := match us, hl with | [_, _], _ => rfl
theorem bd__law_take (kV doc pm : Value) (an : Option Addr) (cdv ct : Value) (us : List Value) (hl : us.length = (["draw", "many"] : List Str).length) : bindArgs (PySem.W.fnOf "_law_take" "_law_take" (defArgs (top 17)) (defBody (top 17)) (defScope (top 17)) .none kV doc pm an cdv ct) ⟨us, []⟩ = pure ((["draw", "many"] : List Str).zip us) := match us, hl with | [_, _], _ => rfl
theorem bd__law_draw (kV doc pm : Value) (an : Option Addr) (cdv ct : Value) (us : List Value) (hl : us.length = (["script"] : List Str).length) : bindArgs (PySem.W.fnOf "_law_draw" "_law_draw" (defArgs (top 16)) (defBody (top 16)) (defScope (top 16)) .none kV doc pm an cdv ct) ⟨us, []⟩ = pure ((["script"] : List Str).zip us) := match us, hl with | [_], _ => rfl
theorem bd_law (kV doc pm : Value) (an : Option Addr) (cdv ct : Value) (us : List Value) (hl : us.length = (["script"] : List Str).length) : bindArgs (PySem.W.fnOf "law" "law" (defArgs (top 34)) (defBody (top 34)) (defScope (top 34)) .none kV doc pm an cdv ct) ⟨us, []⟩ = pure ((["script"] : List Str).zip us) := match us, hl with | [_], _ => rfl
theorem pg_ok (A : AllIn K) (X : K.In h) (G : h.Ns mainGlobals mg) (cap cell : Addr) : PgOk ⟨P0, w, K, mg, base, cap, cell⟩ P 1 := by
  refine ⟨fun j call => ⟨fun x d hx => ?_, fun x hx => ?_, fun c hc => ?_, fun x F b hx => ?_⟩, fun x F hp hF => ?_, fun x p hp => ?_⟩
  · have hx := lookup_mem (show cstT.lookup x = some d from hx)
    simp only [cstT, List.mem_cons, List.mem_nil_iff, or_false, List.not_mem_nil, Prod.mk.injEq] at hx
    rcases hx with ⟨rfl, rfl⟩ | ⟨rfl, rfl⟩
    · obtain ⟨u, a, i⟩ := A.c_MOST_NUMBER
      obtain ⟨v, r1, r2⟩ := ItIn.rp (U := ⟨P0, w, K, mg, base, cap, cell⟩) _ _ i
      exact ⟨u, v, PySem.W.mg_of X G a, r1, r2⟩
    · obtain ⟨u, a, i⟩ := A.c_MOST_WEIGHT
      obtain ⟨v, r1, r2⟩ := ItIn.rp (U := ⟨P0, w, K, mg, base, cap, cell⟩) _ _ i
      exact ⟨u, v, PySem.W.mg_of X G a, r1, r2⟩
  · have hx : x ∈ bareT := of_decide_eq_true hx
    simp only [bareT, List.mem_cons, List.mem_nil_iff, or_false, List.not_mem_nil, Prod.mk.injEq] at hx
    rcases hx with rfl | rfl | rfl | rfl | rfl | rfl | rfl | rfl | rfl | rfl | rfl | rfl | rfl
    · exact PySem.W.mg_none_of X G A.b_abs
    · exact PySem.W.mg_none_of X G A.b_all
    · exact PySem.W.mg_none_of X G A.b_bool
    · exact PySem.W.mg_none_of X G A.b_int
    · exact PySem.W.mg_none_of X G A.b_isinstance
    · exact PySem.W.mg_none_of X G A.b_len
    · exact PySem.W.mg_none_of X G A.b_list
    · exact PySem.W.mg_none_of X G A.b_max
    · exact PySem.W.mg_none_of X G A.b_min
    · exact PySem.W.mg_none_of X G A.b_range
    · exact PySem.W.mg_none_of X G A.b_str
    · exact PySem.W.mg_none_of X G A.b_sum
    · exact PySem.W.mg_none_of X G A.b_tuple
  · have hc : c ∈ excT := of_decide_eq_true hc
    obtain ⟨CF, aF, dF, tF, C_Malformed, E_Malformed, f_Malformed, v_Malformed, s_Malformed_Malformed⟩ := A.ex
    simp only [excT, List.mem_cons, List.mem_nil_iff, or_false, List.not_mem_nil, Prod.mk.injEq] at hc
    rcases hc with rfl
    · refine ⟨C_Malformed, PySem.W.mg_of X G E_Malformed.a, .inl ⟨by kernel_rfl, _, "ValueError", _, _, PySem.F.excBase_ValueError, E_Malformed.x, E_Malformed.k, fun X e => raises_own (by rw [e]; exact E_Malformed.e.hs) (by rw [e]; exact E_Malformed.t)⟩, fun c hc C1 hC => ?_⟩
      have hc : c ∈ excT := of_decide_eq_true hc
      simp only [excT, List.mem_cons, List.mem_nil_iff, or_false, List.not_mem_nil] at hc
      rcases hc with rfl
      · have e : C1 = .ref C_Malformed := Option.some.inj (hC.symm.trans (PySem.W.mg_of X G E_Malformed.a))
        subst e
        exact (PySem.W.exm_ref E_Malformed.e.hs E_Malformed.e.hd E_Malformed.t s_Malformed_Malformed).trans (congrArg some (by decide +kernel))
  · have hx := lookup_mem2 (show subT.lookup (x, F) = some b from hx)
    obtain ⟨CF, aF, dF, tF, C_Malformed, E_Malformed, f_Malformed, v_Malformed, s_Malformed_Malformed⟩ := A.ex
    simp only [subT, List.mem_cons, List.mem_nil_iff, or_false, List.not_mem_nil, Prod.mk.injEq] at hx
    rcases hx with ⟨⟨rfl, rfl⟩, rfl⟩ | ⟨⟨rfl, rfl⟩, rfl⟩
    · exact ⟨C_Malformed, .ref CF, .ref CF, PySem.W.mg_of X G E_Malformed.a, E_Malformed.e, .inl (PySem.W.mg_of X G aF), rfl, fun u hu => hu, kit_ref dF tF f_Malformed⟩
    · exact ⟨C_Malformed, .type "ValueError", .ty "ValueError", PySem.W.mg_of X G E_Malformed.a, E_Malformed.e, .inr ⟨PySem.W.mg_none_of X G A.bVE, by kernel_rfl⟩, rfl, fun u hu => hu, kit_ty' (by decide +kernel) v_Malformed⟩
  · have hF := lookup_mem (show fdT.lookup x = some F from hF)
    simp only [fdT, List.mem_cons, List.mem_nil_iff, or_false, List.not_mem_nil, Prod.mk.injEq] at hF
    rcases hF with ⟨rfl, rfl⟩ | ⟨rfl, rfl⟩ | ⟨rfl, rfl⟩ | ⟨rfl, rfl⟩ | ⟨rfl, rfl⟩ | ⟨rfl, rfl⟩ | ⟨rfl, rfl⟩ | ⟨rfl, rfl⟩ | ⟨rfl, rfl⟩ | ⟨rfl, rfl⟩ | ⟨rfl, rfl⟩ | ⟨rfl, rfl⟩ | ⟨rfl, rfl⟩ | ⟨rfl, rfl⟩ | ⟨rfl, rfl⟩ | ⟨rfl, rfl⟩ | ⟨rfl, rfl⟩ | ⟨rfl, rfl⟩ | ⟨rfl, rfl⟩ | ⟨rfl, rfl⟩ | ⟨rfl, rfl⟩
    · obtain ⟨f, fd, F, m, b⟩ := A.d_is_whole.fn X G F_is_whole.ps bd_is_whole
      exact ⟨_, _, _, f, fd, F, sc_is_whole, rfl, rfl, m, b⟩
    · obtain ⟨f, fd, F, m, b⟩ := A.d_is_draw.fn X G F_is_draw.ps bd_is_draw
      exact ⟨_, _, _, f, fd, F, sc_is_draw, rfl, rfl, m, b⟩
    · obtain ⟨f, fd, F, m, b⟩ := A.d_check_draw.fn X G F_check_draw.ps bd_check_draw
      exact ⟨_, _, _, f, fd, F, sc_check_draw, rfl, rfl, m, b⟩
    · obtain ⟨f, fd, F, m, b⟩ := A.d_tails.fn X G F_tails.ps bd_tails
      exact ⟨_, _, _, f, fd, F, sc_tails, rfl, rfl, m, b⟩
    · obtain ⟨f, fd, F, m, b⟩ := A.d_heads.fn X G F_heads.ps bd_heads
      exact ⟨_, _, _, f, fd, F, sc_heads, rfl, rfl, m, b⟩
    · obtain ⟨f, fd, F, m, b⟩ := A.d_stays_with.fn X G F_stays_with.ps bd_stays_with
      exact ⟨_, _, _, f, fd, F, sc_stays_with, rfl, rfl, m, b⟩
    · obtain ⟨f, fd, F, m, b⟩ := A.d__law_dice.fn X G F__law_dice.ps bd__law_dice
      exact ⟨_, _, _, f, fd, F, sc__law_dice, rfl, rfl, m, b⟩
    · obtain ⟨f, fd, F, m, b⟩ := A.d__law_near.fn X G F__law_near.ps bd__law_near
      exact ⟨_, _, _, f, fd, F, sc__law_near, rfl, rfl, m, b⟩
    · obtain ⟨f, fd, F, m, b⟩ := A.d__law_pair.fn X G F__law_pair.ps bd__law_pair
      exact ⟨_, _, _, f, fd, F, sc__law_pair, rfl, rfl, m, b⟩
    · obtain ⟨f, fd, F, m, b⟩ := A.d__law_together.fn X G F__law_together.ps bd__law_together
      exact ⟨_, _, _, f, fd, F, sc__law_together, rfl, rfl, m, b⟩
    · obtain ⟨f, fd, F, m, b⟩ := A.d__law_tails.fn X G F__law_tails.ps bd__law_tails
      exact ⟨_, _, _, f, fd, F, sc__law_tails, rfl, rfl, m, b⟩
    · obtain ⟨f, fd, F, m, b⟩ := A.d__law_heads.fn X G F__law_heads.ps bd__law_heads
      exact ⟨_, _, _, f, fd, F, sc__law_heads, rfl, rfl, m, b⟩
    · obtain ⟨f, fd, F, m, b⟩ := A.d__law_ratios.fn X G F__law_ratios.ps bd__law_ratios
      exact ⟨_, _, _, f, fd, F, sc__law_ratios, rfl, rfl, m, b⟩
    · obtain ⟨f, fd, F, m, b⟩ := A.d__law_all_at_most.fn X G F__law_all_at_most.ps bd__law_all_at_most
      exact ⟨_, _, _, f, fd, F, sc__law_all_at_most, rfl, rfl, m, b⟩
    · obtain ⟨f, fd, F, m, b⟩ := A.d__law_at_most.fn X G F__law_at_most.ps bd__law_at_most
      exact ⟨_, _, _, f, fd, F, sc__law_at_most, rfl, rfl, m, b⟩
    · obtain ⟨f, fd, F, m, b⟩ := A.d__law_least_row.fn X G F__law_least_row.ps bd__law_least_row
      exact ⟨_, _, _, f, fd, F, sc__law_least_row, rfl, rfl, m, b⟩
    · obtain ⟨f, fd, F, m, b⟩ := A.d__law_done.fn X G F__law_done.ps bd__law_done
      exact ⟨_, _, _, f, fd, F, sc__law_done, rfl, rfl, m, b⟩
    · obtain ⟨f, fd, F, m, b⟩ := A.d__law_bad_dice.fn X G F__law_bad_dice.ps bd__law_bad_dice
      exact ⟨_, _, _, f, fd, F, sc__law_bad_dice, rfl, rfl, m, b⟩
    · obtain ⟨f, fd, F, m, b⟩ := A.d__law_condition.fn X G F__law_condition.ps bd__law_condition
      exact ⟨_, _, _, f, fd, F, sc__law_condition, rfl, rfl, m, b⟩
    · obtain ⟨f, fd, F, m, b⟩ := A.d__law_even.fn X G F__law_even.ps bd__law_even
      exact ⟨_, _, _, f, fd, F, sc__law_even, rfl, rfl, m, b⟩
    · obtain ⟨f, fd, F, m, b⟩ := A.d__law_malformed.fn X G F__law_malformed.ps bd__law_malformed
      exact ⟨_, _, _, f, fd, F, sc__law_malformed, rfl, rfl, m, b⟩
  · have hp : (if x = ("_law_take" : Str) then some takeP else none) = some p := hp
    split at hp
    · rename_i e
      subst e
      cases hp
      obtain ⟨f, fd, F, m, b⟩ := A.d_take.fn X G ["draw", "many"] bd__law_take
      refine ⟨f, fd, _, m, F.kp, b, ok_take F (PySem.W.mg_none_of X G A.b_len) (PySem.W.mg_none_of X G A.b_int), fun ds s hl => ?_⟩
      unfold takeP
      split
      · exact absurd rfl hl
      · rfl
    · cases hp
theorem wp_of {α : Type} {m m2 : M α} {s : DS} {Q : α → DS → Prop} {E : Exc → DS → Prop} (h : m = m2) (q : (m2 s).sat Q) : Wp m s Q E := by
  subst h
  unfold Wp
  obtain ⟨a, s2, e, q⟩ := q.ex
  rw [e]
  exact q
theorem law_run : LawRun P 5 2000 nLaw (defScope (top 34)) ((defBody (top 34)).drop 1) := fun ns sd _ h0 h1 => wp_of (l_law (P.call 2000 5) 2000 (startL nLaw.length)) (law_runs 2000 (by decide) ⟨Int.le_refl _, h0, h1⟩)
theorem all_law (A : AllIn K) (X : K.In h) (G : h.Ns mainGlobals mg) {fa : Addr} (hfa : mg "law" = some (.ref fa)) : ∃ fd : FuncData, (∀ (s : Shared) (u : Value), BindsTo s fd ⟨[u], []⟩ [("script", u)]) ∧ ∀ base : Heap, K.In base → base.Ns mainGlobals mg → FnOk P0 w K mg base (L2.CX P0 w) 7 fa fd ["script"] (spLaw K) := by
  obtain ⟨f, oc, od, an, osl, kV, doc, pm, cdv, ct, a, l, c, k⟩ := A.d_law.ex
  have F := fun_mk l c k
  have e : fa = f := by have := hfa.symm.trans (PySem.W.mg_of X G a); cases this; rfl
  subst e
  refine ⟨PySem.W.fnOf "law" "law" (defArgs (top 34)) (defBody (top 34)) (defScope (top 34)) .none kV doc pm an cdv ct, fun s u => .of_eq rfl, fun base _ _ => ?_⟩
  obtain ⟨fd_, fdd, Fd_, md, bd⟩ := A.d_draw.fn X G ["script"] bd__law_draw
  have D0 : FnOk P0 w K mg base (L2.CX P0 w) 1 fd_ fdd ["script"] (spDraw K) := ok_draw Fd_ (PySem.W.mg_none_of X G A.b_abs) (PySem.W.mg_none_of X G A.b_int)
  exact law_sound (P := P) (k0 := 1) (j := 5) (w := 2000) (N := nLaw) (rest := (defBody (top 34)).drop 1) (fun cap cell => pg_ok A X G cap cell) F sc_law rfl rfl rfl rfl (by first | exact .inl rfl | exact .inr rfl) rfl D0 md Fd_.kp bd (Nat.le_refl 1) law_run
theorem walk_law {l : PySem.W.OpenLaw} {q : Program} {loose : List Str} {XP : (Str → Option Value) → Heap → Prop} {YP : World → Heap → Prop} {d : DefRec} {K : Params → PySem.W.Frag} (hn : l.most = some 63) (hdf : d.params.defaults = [])
    (hY : ∀ (w : World) (h : Heap), YP w h → (K w.params).In h)
    (F : ∀ (w : World) (mg : Str → Option Value) (fa : Addr) (h : Heap), (K w.params).In h → h.Ns mainGlobals mg → mg d.name = some (.ref fa) →
      ∃ fd : FuncData, (∀ (s : Shared) (u : Value), BindsTo s fd ⟨[u], []⟩ [("script", u)]) ∧ ∀ base : Heap, (K w.params).In base → base.Ns mainGlobals mg → FnOk l.prog w (K w.params) mg base (L2.CX l.prog w) 7 fa fd ["script"] (spLaw (K w.params))) :
    PySem.W.WalkO q loose XP YP l.row.toRowW d [] (fun f vs => PySem.call f vs) :=
  L2.walk_of (n := 63) (k := 7) (x := "script") (CX := fun w => L2.CX l.prog w) (sp := fun w => spLaw (K w.params)) hn (by decide) hdf ⟨rfl, by decide, by decide⟩ hY F (fun _ _ a ns hl _ hS => ⟨a, ns, rfl, hS, hl, fun _ => rfl⟩) fun _ _ _ _ _ ⟨_, _, _, _, _, _, _, _, _, _, _, _, z⟩ => z
end
end Py
open PySem PySem.W PyProof.Rows
set_option maxRecDepth 100000 in
set_option maxHeartbeats 0 in
theorem PySem.Challenge.cw_drawnhigher_k28_whole_sums_that_keep_rat_holds : PySem.Challenge.rw_drawnhigher_k28_whole_sums_that_keep_rat.Holds := by
  w_on; o_law; k_head; (case hw => w_witness2)
  k_fill
  refine Py.walk_law (l := PySem.Challenge.rw_drawnhigher_k28_whole_sums_that_keep_rat) rfl rfl (fun w h Y => PySem.W.kIn_of Y) ?F
  case F =>
    intro w mg fa h KX G hmg
    refine' Py.all_law ?A KX G hmg
    case A =>
      refine' ⟨?d_is_whole, ?d_is_draw, ?d_check_draw, ?d_tails, ?d_heads, ?d_stays_with, ?d__law_dice, ?d__law_near, ?d__law_pair, ?d__law_together, ?d__law_tails, ?d__law_heads, ?d__law_ratios, ?d__law_all_at_most, ?d__law_at_most, ?d__law_least_row, ?d__law_done, ?d__law_bad_dice, ?d__law_condition, ?d__law_even, ?d__law_malformed, ?d_take, ?d_draw, ?d_law, ?b_abs, ?b_all, ?b_bool, ?b_int, ?b_isinstance, ?b_len, ?b_list, ?b_max, ?b_min, ?b_range, ?b_str, ?b_sum, ?b_tuple, ?c_MOST_NUMBER, ?c_MOST_WEIGHT, ?bVE, ?ex⟩
      case d_is_whole => refine' Py.def_mk ?a ?l ?c ?k; (case a => k_is); (case l => k_is); (case c => k_is); (case k => k_is)
      case d_is_draw => refine' Py.def_mk ?a ?l ?c ?k; (case a => k_is); (case l => k_is); (case c => k_is); (case k => k_is)
      case d_check_draw => refine' Py.def_mk ?a ?l ?c ?k; (case a => k_is); (case l => k_is); (case c => k_is); (case k => k_is)
      case d_tails => refine' Py.def_mk ?a ?l ?c ?k; (case a => k_is); (case l => k_is); (case c => k_is); (case k => k_is)
      case d_heads => refine' Py.def_mk ?a ?l ?c ?k; (case a => k_is); (case l => k_is); (case c => k_is); (case k => k_is)
      case d_stays_with => refine' Py.def_mk ?a ?l ?c ?k; (case a => k_is); (case l => k_is); (case c => k_is); (case k => k_is)
      case d__law_dice => refine' Py.def_mk ?a ?l ?c ?k; (case a => k_is); (case l => k_is); (case c => k_is); (case k => k_is)
      case d__law_near => refine' Py.def_mk ?a ?l ?c ?k; (case a => k_is); (case l => k_is); (case c => k_is); (case k => k_is)
      case d__law_pair => refine' Py.def_mk ?a ?l ?c ?k; (case a => k_is); (case l => k_is); (case c => k_is); (case k => k_is)
      case d__law_together => refine' Py.def_mk ?a ?l ?c ?k; (case a => k_is); (case l => k_is); (case c => k_is); (case k => k_is)
      case d__law_tails => refine' Py.def_mk ?a ?l ?c ?k; (case a => k_is); (case l => k_is); (case c => k_is); (case k => k_is)
      case d__law_heads => refine' Py.def_mk ?a ?l ?c ?k; (case a => k_is); (case l => k_is); (case c => k_is); (case k => k_is)
      case d__law_ratios => refine' Py.def_mk ?a ?l ?c ?k; (case a => k_is); (case l => k_is); (case c => k_is); (case k => k_is)
      case d__law_all_at_most => refine' Py.def_mk ?a ?l ?c ?k; (case a => k_is); (case l => k_is); (case c => k_is); (case k => k_is)
      case d__law_at_most => refine' Py.def_mk ?a ?l ?c ?k; (case a => k_is); (case l => k_is); (case c => k_is); (case k => k_is)
      case d__law_least_row => refine' Py.def_mk ?a ?l ?c ?k; (case a => k_is); (case l => k_is); (case c => k_is); (case k => k_is)
      case d__law_done => refine' Py.def_mk ?a ?l ?c ?k; (case a => k_is); (case l => k_is); (case c => k_is); (case k => k_is)
      case d__law_bad_dice => refine' Py.def_mk ?a ?l ?c ?k; (case a => k_is); (case l => k_is); (case c => k_is); (case k => k_is)
      case d__law_condition => refine' Py.def_mk ?a ?l ?c ?k; (case a => k_is); (case l => k_is); (case c => k_is); (case k => k_is)
      case d__law_even => refine' Py.def_mk ?a ?l ?c ?k; (case a => k_is); (case l => k_is); (case c => k_is); (case k => k_is)
      case d__law_malformed => refine' Py.def_mk ?a ?l ?c ?k; (case a => k_is); (case l => k_is); (case c => k_is); (case k => k_is)
      case d_take => refine' Py.def_mk ?a ?l ?c ?k; (case a => k_is); (case l => k_is); (case c => k_is); (case k => k_is)
      case d_draw => refine' Py.def_mk ?a ?l ?c ?k; (case a => k_is); (case l => k_is); (case c => k_is); (case k => k_is)
      case d_law => refine' Py.def_mk ?a ?l ?c ?k; (case a => k_is); (case l => k_is); (case c => k_is); (case k => k_is)
      case b_abs => k_is
      case b_all => k_is
      case b_bool => k_is
      case b_int => k_is
      case b_isinstance => k_is
      case b_len => k_is
      case b_list => k_is
      case b_max => k_is
      case b_min => k_is
      case b_range => k_is
      case b_str => k_is
      case b_sum => k_is
      case b_tuple => k_is
      case c_MOST_NUMBER => refine' Py.cst_mk ?a ?i; (case a => k_is); (case i => exact Py.itI)
      case c_MOST_WEIGHT => refine' Py.cst_mk ?a ?i; (case a => k_is); (case i => exact Py.itI)
      case bVE => k_is
      case ex =>
        refine' Py.ex_mk ?aF ?dF ?tF ?e_Malformed ?f_Malformed ?v_Malformed ?s_Malformed_Malformed
        (case aF => k_is); (case dF => k_is); (case tF => k_is)
        case e_Malformed => refine' ⟨?a, ?x, ?k, ?t, ⟨?hg, ?hk, ?hs, ?hd, ?ha, ?hn, ?ht, ?hm⟩⟩; (case a => k_is); (case x => k_exc); (case k => k_is); (case t => k_is); (case hg => k_is); (case hk => k_is); (case hs => k_is); (case hd => k_is); (case ha => k_is); (case hn => k_is); (case ht => k_is); (case hm => k_is)
        (case f_Malformed => k_is); (case v_Malformed => k_is)
        (case s_Malformed_Malformed => k_is)


