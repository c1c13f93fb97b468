import PyProof.Rows.All
import Wide.All
import OpenK.AllK
import Wide.FinOn
import KE.SortData
import PyProof.TupleOfSeq
import HandS.Deep
import HandS.SortInts
import HandS.ForMost
import HandS.ForExc
import HandS.Wide
import HandS.TupAny
import HandS.IsInst
import HandS.Codes
import HandS.Style
import HandS.TryOnly
import HandS.TupMul
import HandS.ExcIs
import HandS.Flow
import KE.KExcSuper
import HandS.ExcInit
import HandS.More
import HandS.Dict
import KE.KTupSum
import KE.DataMinMax
import HandS.Iter
import HandS.Zip
import KE.GoesEnum
import HandS.Conv
import PySem.Challenge.RW_drawnhigher_k01_draws
set_option Elab.async false
set_option linter.all false
set_option maxRecDepth 100000
set_option maxHeartbeats 4000000
/-! sorted(..) of a list or tuple of alike data; < between alike data -/
namespace Py
open PySem PySem.Spec PyProof.Rows PySem.W L2
section
variable {prog : Program} {w : World} {A : Around} {E : Value → Shared → Prop} {s : Shared} {β : Type} {bs : List β} {enc : β → PyData} {R : Value → β → Prop}
theorem collect_lt {l : Addr} {T : String} {o : Obj} {items : Array Value} {n : Nat} {Q : List Value → Shared → Prop} (hT : T = "list" ∨ T = "tuple") (ho : s.heap.get? l = some o) (hc : o.cls = .type T) (hd : o.data = .seq items n)
    (h : Q items.toList { s with heap := (s.heap.push (seqObj "list" #[] 0)).update s.heap.objs.size (Obj.mapSeq (· ++ items)) }) (hsz : items.size ≤ sizeLine) :
    wpAny (model prog w) A (collect (.ref l)) Q E s := by
  unfold collect
  refine wpAny_bind (wpAny_runValue (codeAny_builtin entry_proto_collect' ?_))
  show wpAny _ _ (do again (.builtin "list.__iadd__" ⟨[← newList [], .ref l], []⟩)) _ _ s
  refine wpAny_bind (wpAny_newList (wpAny_pure ⟨Code.quiet_builtin _ (by decide +kernel), codeAny_builtin entry_list_iadd' ?_⟩))
  show wpAny _ _ (Builtin.List.listExtendWith (.ref s.heap.objs.size) (.ref l) (.ref s.heap.objs.size)) _ _ { s with heap := s.heap.push (seqObj "list" #[] 0) }
  unfold Builtin.List.listExtendWith
  have ho' : (s.heap.push (seqObj "list" #[] 0)).get? l = some o := Heap.get?_push_of_some _ ho
  refine wpAny_bind (wpAny_typeOf (T := T) ⟨o, ho', hc⟩ ?_)
  rw [if_pos (by rcases hT with rfl | rfl <;> simp)]
  refine wpAny_bind (listItems_at ho' hd ?_)
  refine wpAny_bind (listItems_at (xs := #[]) (n := 0) (Heap.get?_push_size _ rfl) rfl ?_)
  rw [if_neg (by simp)]
  refine wpAny_bind (listUpdate_at (xs := #[]) (n := 0) (Heap.get?_push_size _ rfl) rfl ?_ (Nat.zero_le _) (by show (#[] ++ items).size ≤ sizeLine + 1; simp only [Array.size_append, List.size_toArray, List.length_nil]; omega))
  refine wpAny_pure ?_
  show wpAny (model prog w) A (do
      let o ← load s.heap.objs.size
      match o.data with
      | .seq xs _ => pure xs.toList
      | _ => unsupported "internal:collect") Q E { s with heap := (s.heap.push (seqObj "list" #[] 0)).update s.heap.objs.size (Obj.mapSeq (· ++ items)) }
  refine wpAny_bind (wpAny_load (get?_update_seq (Heap.get?_push_size _ rfl) _) ?_)
  show wpAny _ _ (pure ((#[] : Array Value) ++ items).toList) Q E _
  rw [show ((#[] : Array Value) ++ items).toList = items.toList by simp]
  exact wpAny_pure h
theorem sorted_seq_data {l : Addr} {T : String} {o : Obj} {items : Array Value} {n : Nat} {Q : Value → Shared → Prop} (hT : T = "list" ∨ T = "tuple") (ho : s.heap.get? l = some o) (hc : o.cls = .type T) (hd : o.data = .seq items n)
    (e : EachIs R items.toList bs) (er : EachIs (fun v b => ∃ as, Reads s.heap v (enc b) as) items.toList bs) (hal : AllAlike (bs.map enc)) (hk : Sortable (bs.map enc)) (hL : items.toList.length ≤ sizeLine)
    (hu : ∀ b, b ∈ bs → A.units + 2 + (enc b).depth < cLine)
    (h : ∀ (h' : Heap) (p : Addr) (out : List Value) (ep : Nat), (∀ b o, s.heap.get? b = some o → h'.get? b = some o) → s.heap.objs.size ≤ p → h'.get? p = some (seqObj "list" out.toArray ep) → out.length = bs.length → EachIs R out (bs.mergeSort (dataLe false enc)) → Q (.ref p) { s with heap := h' }) :
    wpAny (model prog w) A (call (.builtin "sorted") [.ref l]) Q E s := by
  refine Calls.call_function_entry kind_sorted plain_sorted entry_sorted (args_sorted1 _) ?_
  unfold Builtin.«sorted»
  refine wpAny_bind (m := checkCount "sorted" 1 1 _) (wpAny_pure ?_)
  refine wpAny_bind (collect_lt hT ho hc hd ?_ (by simpa using hL))
  refine wpAny_bind (wpAny_newList ?_ hL)
  have hsz : ((s.heap.push (seqObj "list" #[] 0)).update s.heap.objs.size (Obj.mapSeq (· ++ items))).objs.size = s.heap.objs.size + 1 := by
    rw [Heap.size_update, size_push']
  have hoL : (((s.heap.push (seqObj "list" #[] 0)).update s.heap.objs.size (Obj.mapSeq (· ++ items))).push (seqObj "list" items.toList.toArray 0)).get? (s.heap.objs.size + 1) = some (seqObj "list" items.toList.toArray 0) := by
    rw [← hsz]; exact Heap.get?_push_size _ rfl
  have keep : ∀ b o, s.heap.get? b = some o → b ≠ s.heap.objs.size + 1 ∧ (((s.heap.push (seqObj "list" #[] 0)).update s.heap.objs.size (Obj.mapSeq (· ++ items))).push (seqObj "list" items.toList.toArray 0)).get? b = some o := fun b o q => by
    have hlt : b < s.heap.objs.size := Heap.lt_size q
    refine ⟨Nat.ne_of_lt (Nat.lt_succ_of_lt hlt), Heap.get?_push_of_some _ ?_⟩
    rw [Heap.get?_update_ne _ _ _ _ (Nat.ne_of_lt hlt)]
    exact Heap.get?_push_of_some _ q
  show wpAny _ _ _ _ _ { s with heap := ((s.heap.push (seqObj "list" #[] 0)).update s.heap.objs.size (Obj.mapSeq (· ++ items))).push (seqObj "list" items.toList.toArray 0) }
  rw [hsz]
  generalize hg : ((s.heap.push (seqObj "list" #[] 0)).update s.heap.objs.size (Obj.mapSeq (· ++ items))).push (seqObj "list" items.toList.toArray 0) = g at hoL keep ⊢
  generalize hp : s.heap.objs.size + 1 = p at hoL keep ⊢
  have er' : EachIs (fun v b => ∃ as, Reads (sortingHeap g p items.toList) v (enc b) as) items.toList bs := er.mono fun _ _ ⟨as, r⟩ => ⟨as, PyProof.Rows.Reads.keeps (fun b o q => sortingHeap_old (keep b o q).1 (keep b o q).2) r⟩
  have S := SortsAt.data (prog := prog) (w := w) (A := A.in1.in1) (s := { s with heap := sortingHeap g p items.toList }) (each_map (R := fun v d => ∃ as, Reads (sortingHeap g p items.toList) v d as) enc er') hal hk (bound_map (A := A.in1.in1) hu)
  refine wpAny_bind (wpAny_holding (wpAny_call_entry slot_list_sort ⟨_, hoL, rfl⟩ entry_list_sort (list_sort_vals (s := { s with heap := g }) hoL S hL ⟨_, rfl, ?_⟩) (args_list_sort _)))
  refine wpAny_pure ⟨_, rfl, ?_⟩
  obtain ⟨ep, hep⟩ := sortedHeap_at (h := g) (a := p) (vs := items.toList) (n := 0) (out := (sortVals (dataKind (sortingHeap g p items.toList) (bs.map enc)) false items.toList items.toList).toArray) hoL
  refine h _ _ _ ep (fun b o q => ?_) (by omega) hep (by rw [sortVals_length false rfl]; exact e.length) (sortVals_data false e er' hal)
  rw [sortedHeap_old (keep b o q).1 (Heap.lt_size (keep b o q).2)]
  exact (keep b o q).2
end
theorem each_vals {H : Hp} {K : PySem.W.Frag} : ∀ {xs : List V} {its : List Value} {ds : List PyData}, Vals xs its → DpAll K H xs ds → EachIs (fun v (b : PyData × V) => RelV b.2 v) its (ds.zip xs)
  | [], _, _, r, h => by cases r; cases h; exact .nil
  | x :: xs, _, _, r, h => by
    cases r with
    | cons r1 r2 =>
      cases h with
      | cons h1 h2 => exact .cons r1 (each_vals r2 h2)
theorem each_reads {h : Heap} {H : Hp} {K : PySem.W.Frag} : ∀ {xs : List V} {its : List Value} {ds : List PyData} {as : List Addr}, DpAll K H xs ds → ReadsAll h its ds as → EachIs (fun v (b : PyData × V) => ∃ as, Reads h v b.1 as) its (ds.zip xs)
  | [], _, _, _, h, r => by cases h; cases r; exact .nil
  | x :: xs, _, _, _, h, r => by
    cases h with
    | cons h1 h2 =>
      cases r with
      | cons r1 r2 => exact .cons ⟨_, r1⟩ (each_reads h2 r2)
theorem zip_fst {H : Hp} {K : PySem.W.Frag} : ∀ {xs : List V} {ds : List PyData}, DpAll K H xs ds → (ds.zip xs).map Prod.fst = ds
  | [], _, h => by cases h; rfl
  | x :: xs, _, h => by
    cases h with
    | cons h1 h2 => rw [List.zip_cons_cons, List.map_cons, zip_fst h2]
theorem vals_of_each : ∀ {out : List Value} {zs : List (PyData × V)}, EachIs (fun v (b : PyData × V) => RelV b.2 v) out zs → Vals (zs.map Prod.snd) out
  | _, _, .nil => .nil
  | _, _, .cons r t => .cons r (vals_of_each t)
/-- sorted(xs), a list or a tuple of alike data -/
def rSortedD (X : Cx) : List V → Hp → VK → Prop := fun vs H Q => ∃ (a : Addr) (xs : List V) (ds : List PyData), vs = [V.ref a] ∧ (SqL X.K H a xs ∨ SqT X.K H a xs) ∧ DpAll X.K H xs ds ∧ AllAlike ds ∧ Sortable ds ∧
  (∀ d ∈ ds, X.A.units + 2 + d.depth < cLine) ∧ ∀ p, H p = none → Q (.ref p) (upd H p (.lst (((ds.zip xs).mergeSort (dataLe false Prod.fst)).map Prod.snd)))
theorem cr_sortedD {X : Cx} : CallR X (.builtin "sorted") (rSortedD X) := by
  intro pins s σ H vs us Q I r h
  obtain ⟨a, xs, ds, rfl, hs, hd, hal, hk, hu, q⟩ := h
  rw [Vals.ref1 r]
  have zf := zip_fst hd
  have fin : ∀ (T : String) (o : Obj) (its : List Value) (n : Nat), T = "list" ∨ T = "tuple" → Vals xs its → s.heap.get? a = some o → o.cls = .type T → o.data = .seq its.toArray n → xs.length ≤ sizeLine →
      wpAny (model X.prog X.w) X.A (call (.builtin "sorted") [.ref a]) (EP X pins σ Q) X.xe s := by
    intro T o its n hT rv ho hc hdt hz
    obtain ⟨as, ra⟩ := Dp.readsAll I ds xs its hd rv
    have hl : its.length = xs.length := rv.length.symm
    refine sorted_seq_data (enc := Prod.fst) (R := fun v (b : PyData × V) => RelV b.2 v) (bs := ds.zip xs) hT ho hc hdt (each_vals rv hd) (each_reads hd ra) (by rw [zf]; exact hal) (by rw [zf]; exact hk) (by simpa using (by omega : its.length ≤ sizeLine)) (fun b hb => hu _ (by rw [← zf]; exact List.mem_map_of_mem hb)) fun h' p out ep kp hp hg hlen he => ?_
    have vo := vals_of_each he
    refine ⟨.ref p, upd H p (.lst (((ds.zip xs).mergeSort (dataLe false Prod.fst)).map Prod.snd)), I.laid (t' := s.toks) kp hp ⟨?_, out, ep, vo, hg⟩, rfl, q p (I.hok.fresh hp)⟩
    have h1 := vo.length
    have h2 := he.length
    rw [List.length_map]
    have h3 : (ds.zip xs).length ≤ xs.length := by rw [List.length_zip]; omega
    rw [List.length_mergeSort]
    omega
  rcases hs with hs | hs
  · obtain ⟨its, rv, ⟨o, n, ho, hc, _, hdt⟩, hz⟩ := I.list hs
    exact fin "list" o its n (.inl rfl) rv ho hc hdt hz
  · obtain ⟨its, rv, ⟨o, ho, hc, n, hdt⟩, hz⟩ := I.tuple hs
    exact fin "tuple" o its n (.inr rfl) rv ho hc hdt hz
/-- x < y, alike data -/
theorem op_ltD {X : Cx} : OpR X (compareOp .Lt) (fun x y H Q => ∃ d e, Dp X.K H x d ∧ Dp X.K H y e ∧ alike d e = true ∧ d ≠ .none ∧ X.A.units + min d.depth e.depth < cLine ∧ Q (.bl (dataLt d e)) H) := by
  intro pins s σ H x y v u Q I rx ry h
  obtain ⟨d, e, hd, he, hal, hn, hu, q⟩ := h
  obtain ⟨as, r1⟩ := Dp.reads I d x v hd rx
  obtain ⟨bs, r2⟩ := Dp.reads I e y u he ry
  exact rcLt_alike d e X.A s v u as bs r1 r2 hal hn hu _ _ _ _ ⟨.bl _, H, I, rfl, q⟩
end Py

set_option Elab.async false
set_option linter.all false
set_option maxRecDepth 100000
/-! A plain interpreter of a small part of Python over data as values. -/
namespace Py
open PySem

abbrev D := PyData
/-- an exception: its class's name, its fields -/
structure Exc where
  cls : Str
  flds : List (Str × D)
/-- the row that numbers are drawn from -/
structure DS where
  cells : List Int
  at_ : Int
  cur : Int
  seed : Int
inductive Res (α : Type) where
  | ok (a : α) (s : DS) | exc (x : Exc) (s : DS) | fail
def M (α : Type) := DS → Res α
def M.pure {α : Type} (a : α) : M α := fun s => .ok a s
def M.bind {α β : Type} (m : M α) (k : α → M β) : M β := fun s => match m s with
  | .ok a s' => k a s'
  | .exc x s' => .exc x s'
  | .fail => .fail
instance : Monad M where
  pure := M.pure
  bind := M.bind
def fail {α : Type} : M α := fun _ => .fail
def throwX {α : Type} (x : Exc) : M α := fun s => .exc x s
def need (b : Bool) : M Unit := if b = true then pure () else fail
def nextS (s : DS) : DS :=
  if s.cur = 0 then
    if s.at_ + 1 < (s.cells.length : Int) ∧ s.cells.getD (s.at_ + 1).toNat 0 ≠ 0 then { s with at_ := s.at_ + 1, cur := s.cells.getD (s.at_ + 1).toNat 0 }
    else { s with at_ := s.at_ + 1, seed := (s.seed * 48271 + 11) % 2147483647, cur := (s.seed * 48271 + 11) % 2147483647 }
  else s
/-- a number from 0 to many - 1 -/
def take (many : Int) : M D := fun s =>
  if 0 < many ∧ many.natAbs.log2 < 9000 ∧ -1 ≤ s.at_ ∧ 0 ≤ s.seed ∧ s.seed < 2147483647 then .ok (.int ((nextS s).cur % many)) { nextS s with cur := (nextS s).cur / many }
  else .fail

/-! ### the surroundings -/
structure Flg where
  fr : Bool       -- gives a fresh list
  fl : Bool       -- gives data without lists
structure Gs where
  cst : Str → Option D            -- the module's constants
  fns : Str → Option Flg          -- the module's defs
  call : Str → List D → M D       -- what they do
  bare : Str → Bool               -- names that the module leaves to the built-ins
  exc : Str → Bool                -- exception classes, made with a text
  ini : Str → Bool                -- those that keep the text in a field
  sub : Str → Str → Option Bool   -- is it a class under another
structure Cxt where
  N : List Str
  sc : Scope      -- the scope that runs
  st : Scope      -- the scope as it is written
abbrev Sl := Option (D × Bool)
abbrev St := List Sl

def kindL (sc : Scope) (x : Str) : Bool := match sc.names.lookup x with
  | some .local => true | some .cell => true | some .free => true | _ => false
def kindG (sc : Scope) (x : Str) : Bool := match sc.names.lookup x with
  | some .globalImplicit => true | _ => false
def slot (Γ : Cxt) (x : Str) : Option Nat := if kindL Γ.sc x = true then Γ.N.idxOf? x else none
def okName (x : Str) : Bool := !(x == ("__debug__" : Str)) && !(x == ("__classdict__" : Str)) && !(x == ("__name__" : Str))

mutual
/-- no list, no dict within -/
def flat : D → Bool
  | .none => true | .bool _ => true | .int _ => true | .str _ => true
  | .tuple ds => flats ds
  | .list _ => false | .dict _ => false
def flats : List D → Bool
  | [] => true
  | d :: ds => flat d && flats ds
end
def capD : D := .dict [(.none, .none)]
/-- a key: a number, a text -/
def keyD : D → Option L2.Key
  | .int i => some (.inl i)
  | .str x => some (.inr x)
  | _ => none
def dAt (k : L2.Key) : List (D × D) → Option D
  | [] => none
  | p :: r => if keyD p.1 = some k then some p.2 else dAt k r
def dOk (kvs : List (D × D)) : Bool := kvs.all fun p => (keyD p.1).isSome
def dPut (kvs : List (D × D)) (k d : D) : List (D × D) :=
  if (kvs.any fun p => decide (keyD p.1 = keyD k)) = true then kvs.map (fun p => if keyD p.1 = keyD k then (p.1, d) else p) else kvs ++ [(k, d)]

/-! ### operators by values -/
def sline : Nat := 16777216
def cut {α : Type} (xs : List α) (lo hi : Option Int) : List α :=
  (xs.drop (HT.sIx xs.length 0 lo)).take (HT.sIx xs.length xs.length hi - HT.sIx xs.length 0 lo)
def binop : Operator → D → D → M D
  | .Add, .int i, .int j => pure (.int (i + j))
  | .Sub, .int i, .int j => pure (.int (i - j))
  | .Mult, .int i, .int j => if i.natAbs.log2 + j.natAbs.log2 < 1000000 then pure (.int (i * j)) else fail
  | .FloorDiv, .int i, .int j => if 0 < j ∧ j.natAbs.log2 < 9000 then pure (.int (i / j)) else
      if j < 0 ∧ j.natAbs.log2 < 9000 then pure (.int (i.fdiv j)) else fail
  | .Mod, .int i, .int j => if 0 < j then pure (.int (i % j)) else fail
  | .Add, .str a, .str b => if a.length + b.length ≤ sline then pure (.str (a ++ b)) else fail
  | .Add, .list a, .list b => if a.length + b.length ≤ sline then pure (.list (a ++ b)) else fail
  | .Add, .tuple a, .tuple b => if a.length + b.length ≤ sline then pure (.tuple (a ++ b)) else fail
  | .Mult, .list a, .int k => if k < 2 ^ 62 ∧ -(2 ^ 62) ≤ k ∧ a.length * k.toNat ≤ sline then pure (.list (List.replicate k.toNat a).flatten) else fail
  | .Mult, .tuple a, .int k => if a ≠ [] ∧ 2 ≤ k ∧ k ≤ 1000 ∧ a.length ≤ 1000 then pure (.tuple (List.replicate k.toNat a).flatten) else if a ≠ [] ∧ k = 1 then pure (.tuple a) else fail
  | .Sub, .bool a, .bool b => pure (.int ((if a then 1 else 0) - (if b then 1 else 0)))
  | _, _, _ => fail
def eqD (x y : D) : M Bool := if SeqAt.shaped x = true ∧ SeqAt.shaped y = true then pure (PyData.eqv x y) else fail
def inD (x y : D) : M Bool := match x, y with
  | x, .list ds => if SeqAt.shaped x = true ∧ SeqAt.shaped (.list ds) = true then pure (ds.any fun z => PyData.eqv z x) else fail
  | x, .tuple ds => if SeqAt.shaped x = true ∧ SeqAt.shaped (.tuple ds) = true then pure (ds.any fun z => PyData.eqv z x) else fail
  | .str a, .str z => if a.cps.size = 1 then pure (decide (a.cps.getD 0 0 ∈ z.cps.toList)) else fail
  | .str a, .dict kvs => if dOk kvs = true then pure (dAt (.inr a) kvs).isSome else fail
  | _, _ => fail
/-- alike data that can be compared, sorted -/
def ltOk (d : D) : Bool := PyData.canLay0 d && decide (d.depth ≤ 32)
def neT : D → Bool
  | .tuple (_ :: _) => true
  | _ => false
def noT : D → Bool
  | .tuple _ => false
  | .none => false
  | _ => true
def srtOk (ds : List D) : Bool := (ds.all fun d => ds.all fun e => PySem.W.alike d e) && (ds.all neT || ds.all noT) && (ds.all ltOk && decide (ds.length ≤ sline))
def srtD (ds : List D) : M D := if srtOk ds = true then pure (.list (ds.mergeSort (PySem.W.dataLe false id))) else fail
def cmpop : CmpOp → D → D → M Bool
  | .Eq, x, y => eqD x y
  | .NotEq, x, y => do let b ← eqD x y; pure (!b)
  | .Lt, .int i, .int j => pure (decide (i < j))
  | .Lt, .tuple a, .tuple b => if PySem.W.alike (.tuple a) (.tuple b) = true ∧ ltOk (.tuple a) = true ∧ ltOk (.tuple b) = true then pure (PySem.W.dataLt (.tuple a) (.tuple b)) else fail
  | .LtE, .int i, .int j => pure (decide (i ≤ j))
  | .Gt, .int i, .int j => pure (decide (j < i))
  | .GtE, .int i, .int j => pure (decide (j ≤ i))
  | .Is, x, .none => match x with
    | .none => pure true
    | _ => pure false
  | .IsNot, x, .none => match x with
    | .none => pure false
    | _ => pure true
  | .Is, .bool a, .bool b => pure (a == b)
  | .IsNot, .bool a, .bool b => pure (!(a == b))
  | .In, x, y => inD x y
  | .NotIn, x, y => do let b ← inD x y; pure (!b)
  | _, _, _ => fail
def getD' (x i : D) : M D := match x, i with
  | .list ds, .int i => match L2.atI ds i with
    | some d => pure d
    | none => fail
  | .tuple ds, .int i => match L2.atI ds i with
    | some d => pure d
    | none => fail
  | .str z, .int i => match L2.atI z.cps.toList i with
    | some c => if z.length ≤ sline then pure (.str ⟨#[c]⟩) else fail
    | none => fail
  | .dict kvs, .int i => match dAt (.inl i) kvs with
    | some d => pure d
    | none => fail
  | .dict kvs, .str a => match dAt (.inr a) kvs with
    | some d => pure d
    | none => fail
  | _, _ => fail
def getS (x : D) (lo hi : Option Int) : M D := match x with
  | .list ds => pure (.list (cut ds lo hi))
  | .tuple ds => pure (.tuple (cut ds lo hi))
  | .str z => if z.length ≤ sline then pure (.str (L2.cutS z lo hi)) else fail
  | _ => fail
/-- the step -1 -/
def isM1 : Expr → Bool
  | .UnaryOp .USub (.Constant (.int 1) _ _) _ => true
  | _ => false
/-- x[::-1] -/
def revD : D → M D
  | .list ds => pure (.list ds.reverse)
  | .tuple ds => pure (.tuple ds.reverse)
  | _ => fail
def asBool : D → M Bool
  | .bool b => pure b
  | _ => fail
def asInt : D → M Int
  | .int i => pure i
  | _ => fail
def intsOf : List D → Option (List Int)
  | [] => some []
  | .int i :: ds => (intsOf ds).map (i :: ·)
  | _ :: _ => none
def boolsOf : List D → Option (List Bool)
  | [] => some []
  | .bool i :: ds => (boolsOf ds).map (i :: ·)
  | _ :: _ => none
def strsOf : List D → Option (List Str)
  | [] => some []
  | .str i :: ds => (strsOf ds).map (i :: ·)
  | _ :: _ => none
def itemsOf : D → Option (List D)
  | .list ds => some ds
  | .tuple ds => some ds
  | _ => none
def maxI : List Int → Int
  | [] => 0
  | x :: r => r.foldl max x
def minI : List Int → Int
  | [] => 0
  | x :: r => r.foldl min x
/-- the built-in functions that make a new list -/
def frB (f : Str) : Bool := decide (f = ("list" : Str)) || decide (f = ("sorted" : Str))
def sortI (ns : List Int) : List Int := ns.mergeSort (fun a b => decide (a ≤ b))
/-- the built-in functions -/
def bi (f : Str) (xs : List D) : M D :=
  if f = ("len" : Str) then match xs with
    | [.list ds] => pure (.int ds.length)
    | [.tuple ds] => pure (.int ds.length)
    | [.str z] => if z.length ≤ sline then pure (.int z.length) else fail
    | _ => fail
  else if f = ("sum" : Str) then match xs with
    | [x] => match (itemsOf x).bind intsOf with
      | some ns => pure (.int ns.sum)
      | none => fail
    | _ => fail
  else if f = ("abs" : Str) then match xs with
    | [.int i] => pure (.int (if i < 0 then -i else i))
    | _ => fail
  else if f = ("max" : Str) then match xs with
    | [.int i, .int j] => pure (.int (if j > i then j else i))
    | [x] => match (itemsOf x).bind intsOf with
      | some (n :: ns) => pure (.int (maxI (n :: ns)))
      | _ => fail
    | _ => fail
  else if f = ("min" : Str) then match xs with
    | [.int i, .int j] => pure (.int (if j < i then j else i))
    | [x] => match (itemsOf x).bind intsOf with
      | some (n :: ns) => pure (.int (minI (n :: ns)))
      | _ => fail
    | _ => fail
  else if f = ("int" : Str) then match xs with
    | [.int i] => pure (.int i)
    | [.bool b] => pure (.int (if b then 1 else 0))
    | _ => fail
  else if f = ("list" : Str) then match xs with
    | [.list ds] => pure (.list ds)
    | [.tuple ds] => pure (.list ds)
    | _ => fail
  else if f = ("tuple" : Str) then match xs with
    | [.list ds] => pure (.tuple ds)
    | [.tuple ds] => pure (.tuple ds)
    | _ => fail
  else if f = ("all" : Str) then match xs with
    | [.list ds] => match boolsOf ds with
      | some bs => pure (.bool (bs.all id))
      | none => fail
    | _ => fail
  else if f = ("any" : Str) then match xs with
    | [.list ds] => match boolsOf ds with
      | some bs => pure (.bool (bs.any id))
      | none => fail
    | _ => fail
  else if f = ("sorted" : Str) then match xs with
    | [.list ds] => match intsOf ds with
      | some ns => pure (.list ((sortI ns).map .int))
      | none => srtD ds
    | [.tuple ds] => srtD ds
    | _ => fail
  else fail
def biN (f : Str) : Bool := decide (f ∈ ([("len" : Str), ("sum" : Str), ("abs" : Str), ("max" : Str), ("min" : Str), ("int" : Str), ("list" : Str), ("tuple" : Str), ("all" : Str), ("any" : Str), ("sorted" : Str)] : List Str))
/-- isinstance(x, T) -/
def tyN : D → Option String
  | .none => some "NoneType" | .bool _ => some "bool" | .int _ => some "int" | .str _ => some "str" | .tuple _ => some "tuple" | .list _ => some "list" | .dict _ => none
def isiT (t : Str) : Option String :=
  if t = ("int" : Str) then some "int" else if t = ("bool" : Str) then some "bool" else if t = ("str" : Str) then some "str"
  else if t = ("tuple" : Str) then some "tuple" else if t = ("list" : Str) then some "list" else none
def isi (d : D) (t : Str) : Option Bool := match tyN d, isiT t with
  | some a, some b => some (a == b || (a == "bool" && b == "int"))
  | _, _ => none
/-- methods of texts with one argument -/
def meth1 (a : Str) (m : Str) (y : D) : M D :=
  if m = ("split" : Str) then match y with
    | .str b => if (b.length == 0) = false ∧ a.length + 2 ≤ sline then pure (.list ((Txt.split a b).map .str)) else fail
    | _ => fail
  else if m = ("partition" : Str) then match y with
    | .str b => if (b.length == 0) = false ∧ a.length ≤ sline then pure (.tuple [.str (Txt.partition a b).1, .str (Txt.partition a b).2.1, .str (Txt.partition a b).2.2]) else fail
    | _ => fail
  else if m = ("join" : Str) then match (itemsOf y).bind strsOf with
    | some ys => if (ys.map (·.length)).sum + ys.length * a.length ≤ 16777216 then pure (.str (Txt.join a ys)) else fail
    | none => fail
  else fail
def methD (x : D) (m : Str) (k : M D) : M D := match x with
  | .str a => do let y ← k; meth1 a m y
  | _ => fail
def methN (m : Str) : Bool := decide (m ∈ ([("split" : Str), ("partition" : Str), ("join" : Str)] : List Str))
/-- what stands ahead of a method's name -/
def plainO : Expr → Bool
  | .Call _ _ _ _ => false
  | _ => true

/-! ### expressions -/
def notStar : Expr → Bool
  | .Starred _ _ => false
  | _ => true
/-- no star among the arguments -/
def noStars (es : List Expr) : Bool := es.all notStar
def evs (f : Expr → M D) : List Expr → M (List D)
  | [] => pure []
  | e :: es => if notStar e = true then do let d ← f e; let ds ← evs f es; pure (d :: ds) else fail
def evPairs (f : Expr → M D) : List (Option Expr) → List Expr → M (List (D × D))
  | [], [] => pure []
  | some k :: ks, v :: vs => do let x ← f k; let y ← f v; let r ← evPairs f ks vs; pure ((x, y) :: r)
  | _, _ => fail
def loadE (G : Gs) (Γ : Cxt) (σ : St) (peek : Bool) (x : Str) : M D :=
  if okName x = true then
    match slot Γ x with
    | some i => match σ[i]? with
      | some (some (d, own)) => if (own = true ∧ peek = false) then fail else pure d
      | _ => fail
    | none => if kindG Γ.sc x = true then match G.cst x with
        | some d => pure d
        | none => fail
      else fail
  else fail
def evP (G : Gs) (Γ : Cxt) (σ : St) (f : Expr → M D) (e : Expr) : M D := match e with
  | .Name x _ => loadE G Γ σ true x
  | e => f e
def evO (f : Expr → M D) : Option Expr → M (Option Int)
  | none => pure none
  | some e => do let d ← f e; let i ← asInt d; pure (some i)
/-- an expression that may be a test -/
def noIf : Expr → Bool
  | .IfExp _ _ _ _ => false
  | _ => true
def tst (f : Expr → M D) (e : Expr) : M Bool := if noIf e = true then do let d ← f e; asBool d else fail
def andL (f : Expr → M D) : List Expr → M D
  | [] => fail
  | [e] => if noIf e = true then f e else fail
  | e :: es => do let b ← tst f e; if b = true then andL f es else pure (.bool false)
def orL (f : Expr → M D) : List Expr → M D
  | [] => fail
  | [e] => if noIf e = true then f e else fail
  | e :: es => do let b ← tst f e; if b = true then pure (.bool true) else orL f es
def cmp1 (x y : M D) (op : CmpOp) : M D := do
  let a ← x
  let b ← y
  let c ← cmpop op a b
  pure (.bool c)
def cmp2 (x y z : M D) (op op' : CmpOp) : M D := do
  let a ← x
  let b ← y
  let t ← cmpop op a b
  if t = true then do
    let c ← z
    let u ← cmpop op' b c
    pure (.bool u)
  else pure (.bool false)
def cmp3 (x y z v : M D) (op op' op2 : CmpOp) : M D := do
  let a ← x
  let b ← y
  let t ← cmpop op a b
  if t = true then do
    let c ← z
    let u ← cmpop op' b c
    if u = true then do
      let d ← v
      let r ← cmpop op2 c d
      pure (.bool r)
    else pure (.bool false)
  else pure (.bool false)
def gname (G : Gs) (Γ : Cxt) (x : Str) : Bool := okName x && kindG Γ.sc x && G.bare x
/-- the items of range(..) inside of list(..), tuple(..) -/
def rngArg (f : Str) : List Expr → Option (List Expr)
  | [.Call (.Name r _) [a] [] _] => if r = ("range" : Str) ∧ (f = ("list" : Str) ∨ f = ("tuple" : Str)) ∧ notStar a = true then some [a] else none
  | [.Call (.Name r _) [a, b] [] _] => if r = ("range" : Str) ∧ (f = ("list" : Str) ∨ f = ("tuple" : Str)) ∧ notStar a = true ∧ notStar b = true then some [a, b] else none
  | _ => none
/-- what a for or a comprehension walks -/
def rangeD (lo : Int) (n : Nat) : List D := (List.range n).map fun i => .int (lo + (i : Nat))
def enumD : Int → List D → List D
  | _, [] => []
  | k, d :: ds => .tuple [.int k, d] :: enumD (k + 1) ds
def zipD : List D → List D → List D
  | x :: xs, y :: ys => .tuple [x, y] :: zipD xs ys
  | _, _ => []
def in62 (i : Int) : Bool := decide (-(2 ^ 62) ≤ i) && decide (i < 2 ^ 62)
def iterC (f : Str) (xs : List D) : M (List D) :=
  if f = ("range" : Str) then match xs with
    | [.int n] => if in62 n = true then pure (rangeD 0 n.toNat) else fail
    | [.int a, .int b] => if in62 a = true ∧ in62 b = true then pure (rangeD a (b - a).toNat) else fail
    | _ => fail
  else if f = ("enumerate" : Str) then match xs with
    | [x] => match itemsOf x with
      | some ds => pure (enumD 0 ds)
      | none => fail
    | [x, .int k] => match itemsOf x with
      | some ds => if in62 k = true then pure (enumD k ds) else fail
      | none => fail
    | _ => fail
  else if f = ("zip" : Str) then match xs with
    | [.list ds, .list es] => pure (zipD ds es)
    | [.tuple ds, .tuple es] => pure (zipD ds es)
    | _ => fail
  else fail
def isTup : Expr → Bool
  | .Tuple _ _ _ => true
  | _ => false
def iterOk (g : Str) (args : List Expr) (tg : Expr) : Bool := noStars args &&
  ((decide (g = ("range" : Str)) && (args.length == 1 || args.length == 2)) ||
   (isTup tg && ((decide (g = ("enumerate" : Str)) && (args.length == 1 || args.length == 2)) || (decide (g = ("zip" : Str)) && args.length == 2))))
def dataI (m : M D) : M (List D) := do
  let d ← m
  match itemsOf d with
  | some ds => pure ds
  | none => fail
def iterE (G : Gs) (Γ : Cxt) (f : Expr → M D) (tg : Expr) : Expr → M (List D)
  | .Call (.Name g p) args [] pos =>
    if gname G Γ g = true ∧ iterOk g args tg = true then do
      let xs ← evs f args
      iterC g xs
    else dataI (f (.Call (.Name g p) args [] pos))
  | .Set _ _ _ => fail
  | e => dataI (f e)
/-- a target: names, tuples of names -/
def setN (Γ : Cxt) (σ : St) (x : Str) (d : D) (own : Bool) : Option St :=
  if okName x = true ∧ (Γ.st.names.lookup x = some .local ∨ Γ.st.names.lookup x = some .cell) then match Γ.N.idxOf? x with
    | some i => some (σ.set i (some (d, own)))
    | none => none
  else none
def bindNs (Γ : Cxt) : St → List Expr → List D → Option St
  | σ, [], [] => some σ
  | σ, .Name x _ :: es, d :: ds => (setN Γ σ x d false).bind fun σ' => bindNs Γ σ' es ds
  | _, _, _ => none
def bindT0 (Γ : Cxt) (σ : St) (tg : Expr) (d : D) : Option St := match tg with
  | .Name x _ => setN Γ σ x d false
  | .Tuple es _ _ => match itemsOf d with
    | some ds => bindNs Γ σ es ds
    | none => none
  | _ => none
def setI (Γ : Cxt) (x : Str) : Option Nat := if okName x = true ∧ (Γ.st.names.lookup x = some .local ∨ Γ.st.names.lookup x = some .cell) then Γ.N.idxOf? x else none
inductive Tg where
  | one (i : Nat) | many (is : List Nat)
def idxs (Γ : Cxt) : List Expr → Option (List Nat)
  | [] => some []
  | .Name x _ :: es => match setI Γ x, idxs Γ es with
    | some i, some is => some (i :: is)
    | _, _ => none
  | _ => none
def tgIdx (Γ : Cxt) : Expr → Option Tg
  | .Name x _ => (setI Γ x).map .one
  | .Tuple es _ _ => (idxs Γ es).map .many
  | _ => none
def setAll : St → List Nat → List D → Option St
  | σ, [], [] => some σ
  | σ, i :: is, d :: ds => setAll (σ.set i (some (d, false))) is ds
  | _, _, _ => none
def bindG (t : Tg) (σ : St) (d : D) : Option St := match t with
  | .one i => some (σ.set i (some (d, false)))
  | .many is => match itemsOf d with
    | some ds => setAll σ is ds
    | none => none
def bindT (Γ : Cxt) (σ : St) (tg : Expr) (d : D) : Option St := match tgIdx Γ tg with
  | some t => bindG t σ d
  | none => none
def lift {α : Type} : Option α → M α
  | some a => pure a
  | none => fail
def tgNames : Expr → List Str
  | .Name x _ => [x]
  | .Tuple es _ _ => es.filterMap fun e => match e with
    | .Name x _ => some x
    | _ => none
  | _ => []
def ownOf (N : List Str) (tg : Expr) : List (Str × Nat) := (tgNames tg).filterMap fun x => (N.idxOf? x).map fun i => (x, i)
def wipe (σ : St) : List Nat → St
  | [] => σ
  | v :: vs => (wipe σ vs).set v none
def compL (bind : D → Option St) (f : St → M Bool) (g : St → M D) : List D → M (List D)
  | [] => pure []
  | d :: ds => do
    let σ' ← lift (bind d)
    let b ← f σ'
    if b = true then do
      let y ← g σ'
      let ys ← compL bind f g ds
      pure (y :: ys)
    else compL bind f g ds
/-- two walks, one in the other -/
def compL2 (bind : D → Option St) (f : St → M Bool) (it : St → M (List D)) (vs : List Nat) (bind2 : St → D → Option St) (f2 : St → M Bool) (g : St → M D) : List D → M (List D)
  | [] => pure []
  | d :: ds => do
    let σ' ← lift (bind d)
    let b ← f σ'
    if b = true then do
      let es ← it σ'
      let ys ← compL (fun e => bind2 (wipe σ' vs) e) f2 g es
      let zs ← compL2 bind f it vs bind2 f2 g ds
      pure (ys ++ zs)
    else compL2 bind f it vs bind2 f2 g ds
def own2 (N : List Str) (tg tg1 : Expr) : List (Str × Nat) := ownOf N tg ++ ownOf N tg1
def isSet : Expr → Bool
  | .Set _ _ _ => true
  | _ => false
def ifsE (f : Expr → M D) : List Expr → M Bool
  | [] => pure true
  | [c] => tst f c
  | _ => fail
/-- no exception leaves a comprehension -/
def quiet {α : Type} (m : M α) : M α := fun s => match m s with
  | .ok a s' => .ok a s'
  | _ => .fail

def compB (rec : St → Expr → M D) (Γ : Cxt) (σ : St) (tg : Expr) (ifs : List Expr) (elt : Expr) (items : List D) : M (List D) :=
  quiet (compL (fun d => bindT Γ σ tg d) (fun σ' => ifsE (rec σ') ifs) (fun σ' => rec σ' elt) items)
def compB2 (G : Gs) (rec : St → Expr → M D) (Γ : Cxt) (σ : St) (tg : Expr) (ifs : List Expr) (tg1 it1 : Expr) (ifs1 : List Expr) (elt : Expr) (items : List D) : M (List D) :=
  quiet (compL2 (fun d => bindT Γ σ tg d) (fun σ' => ifsE (rec σ') ifs) (fun σ' => iterE G Γ (rec σ') tg1 it1) ((ownOf Γ.N tg1).map (·.2)) (fun σ d => bindT Γ σ tg1 d) (fun σ' => ifsE (rec σ') ifs1) (fun σ' => rec σ' elt) items)
def callQ (G : Gs) (f : Str) (args : List Expr) (xs : List D) : M D := match args with
  | [] => quiet (G.call f xs)
  | _ :: _ => G.call f xs
/-- isinstance: with a type, with two types -/
def isiE (G : Gs) (Γ : Cxt) (f : Expr → M D) : List Expr → M D
  | [a, .Name t _] => if gname G Γ t = true ∧ notStar a = true ∧ (isiT t).isSome = true then do
      let x ← f a
      match isi x t with
      | some b => pure (.bool b)
      | none => fail
    else fail
  | [a, .Tuple [.Name t _, .Name t2 _] _ _] => if (gname G Γ t = true ∧ gname G Γ t2 = true) ∧ notStar a = true ∧ (isiT t).isSome = true ∧ (isiT t2).isSome = true then do
      let x ← f a
      match isi x t, isi x t2 with
      | some b, some c => pure (.bool (b || c))
      | _, _ => fail
    else fail
  | _ => fail
/-- list(range(..)), tuple(range(..)) -/
def rngE (G : Gs) (Γ : Cxt) (f : Expr → M D) (h : Str) (rs : List Expr) : M D :=
  if gname G Γ "range" = true then do
    let xs ← evs f rs
    let ds ← iterC "range" xs
    if ds.length ≤ sline then pure (if h = ("list" : Str) then .list ds else .tuple ds) else fail
  else fail
/-- a list of the module's defs -/
def fnNames : List Expr → Option (List Str)
  | [] => some []
  | .Name f _ :: es => (fnNames es).map (f :: ·)
  | _ => none
def fnOk (G : Gs) (Γ : Cxt) (f : Str) : Bool := okName f && kindG Γ.sc f && !G.bare f && (match G.fns f with
  | some fg => !fg.fl
  | none => false)
def plainI : Expr → Bool
  | .Slice _ _ _ _ => false
  | _ => true
/-- [f, g, ..][i](..) -/
def callLs (G : Gs) (Γ : Cxt) (fi : M D) (fa : M (List D)) (es args : List Expr) : M D := match fnNames es with
  | some fs => if (fs.all (fnOk G Γ) = true ∧ fs.length ≤ 1000) ∧ noStars args = true ∧ args.isEmpty = false then do
      let d ← fi
      let j ← asInt d
      match L2.atI fs j with
      | some f => do let xs ← fa; G.call f xs
      | none => fail
    else fail
  | none => fail
def evF (G : Gs) (rec : Cxt → St → Expr → M D) (Γ : Cxt) (σ : St) : Expr → M D
  | .Constant (.int i) _ _ => pure (.int i)
  | .Constant (.bool b) _ _ => pure (.bool b)
  | .Constant .none _ _ => pure .none
  | .Constant (.str x) _ _ => pure (.str x)
  | .Name x _ => loadE G Γ σ false x
  | .BinOp a op b _ => do let x ← evP G Γ σ (rec Γ σ) a; let y ← evP G Γ σ (rec Γ σ) b; binop op x y
  | .UnaryOp .USub a _ => do let x ← rec Γ σ a; let i ← asInt x; pure (.int (-i))
  | .UnaryOp .Not a _ => do let b ← tst (rec Γ σ) a; pure (.bool (!b))
  | .BoolOp .And es _ => andL (rec Γ σ) es
  | .BoolOp .Or es _ => orL (rec Γ σ) es
  | .Compare a [op] [b] _ => if behindInMarks op b = false then cmp1 (evP G Γ σ (rec Γ σ) a) (evP G Γ σ (rec Γ σ) b) op else fail
  | .Compare a [op, op'] [b, c] _ => if lastMarks [op, op'] [b, c] = false then cmp2 (evP G Γ σ (rec Γ σ) a) (evP G Γ σ (rec Γ σ) b) (evP G Γ σ (rec Γ σ) c) op op' else fail
  | .Compare a [op, op', op2] [b, c, d] _ => if lastMarks [op, op', op2] [b, c, d] = false then cmp3 (evP G Γ σ (rec Γ σ) a) (evP G Γ σ (rec Γ σ) b) (evP G Γ σ (rec Γ σ) c) (evP G Γ σ (rec Γ σ) d) op op' op2 else fail
  | .IfExp c a b _ => do let t ← tst (rec Γ σ) c; if t = true then rec Γ σ a else rec Γ σ b
  | .Tuple es _ _ => do let ds ← evs (rec Γ σ) es; if ds.length ≤ sline then pure (.tuple ds) else fail
  | .List es _ => do let ds ← evs (rec Γ σ) es; if ds.length ≤ sline then pure (.list ds) else fail
  | .Dict ks vs _ => if ks.length ≤ 15 ∧ ks.all (·.isSome) = true ∧ ks.length = vs.length then do
      let ps ← evPairs (rec Γ σ) ks vs
      if dOk ps = true ∧ (ps.map fun p => keyD p.1).Nodup then pure (.dict ps) else fail
    else fail
  | .Subscript a (.Slice lo hi none _) _ => do
    let x ← evP G Γ σ (rec Γ σ) a
    let l ← evO (evP G Γ σ (rec Γ σ)) lo
    let h ← evO (evP G Γ σ (rec Γ σ)) hi
    getS x l h
  | .Subscript a (.Slice none none (some st) _) _ => if isM1 st = true then do
      let x ← evP G Γ σ (rec Γ σ) a
      revD x
    else fail
  | .Subscript a i _ => do
    let x ← evP G Γ σ (rec Γ σ) a
    let k ← evP G Γ σ (rec Γ σ) i
    getD' x k
  | .ListComp elt [⟨tg, it, ifs, 0⟩] sc _ =>
    if L2.blkC Γ.N Γ.sc sc (ownOf Γ.N tg) = true then do
      let items ← iterE G Γ (evP G Γ σ (rec Γ σ)) tg it
      let ys ← compB (rec ⟨Γ.N, L2.relS sc Γ.sc, sc⟩) ⟨Γ.N, L2.relS sc Γ.sc, sc⟩ (wipe σ ((ownOf Γ.N tg).map (·.2))) tg ifs elt items
      if ys.length ≤ sline then pure (.list ys) else fail
    else fail
  | .ListComp elt [⟨tg, it, ifs, 0⟩, ⟨tg1, it1, ifs1, 0⟩] sc _ =>
    if L2.blkC Γ.N Γ.sc sc (own2 Γ.N tg tg1) = true ∧ isSet it1 = false then do
      let items ← iterE G Γ (evP G Γ σ (rec Γ σ)) tg it
      let ys ← compB2 G (rec ⟨Γ.N, L2.relS sc Γ.sc, sc⟩) ⟨Γ.N, L2.relS sc Γ.sc, sc⟩ (wipe σ ((own2 Γ.N tg tg1).map (·.2))) tg ifs tg1 it1 ifs1 elt items
      if ys.length ≤ sline then pure (.list ys) else fail
    else fail
  | .Call (.Name f _) args [] _ =>
    if okName f = true ∧ kindG Γ.sc f = true then
      if G.bare f = true then
        if f = ("isinstance" : Str) then isiE G Γ (evP G Γ σ (rec Γ σ)) args
        else match rngArg f args with
        | some rs => rngE G Γ (evP G Γ σ (rec Γ σ)) f rs
        | none => if biN f = true ∧ noStars args = true then do
          let xs ← evs (evP G Γ σ (rec Γ σ)) args
          bi f xs
        else fail
      else match G.fns f with
        | some fg => if noStars args = true then (if fg.fl = true then do
            let xs ← evs (evP G Γ σ (rec Γ σ)) args
            let d ← callQ G f args xs
            if flat d = true then pure d else fail
          else do
            let xs ← evs (rec Γ σ) args
            callQ G f args xs) else fail
        | none => fail
    else fail
  | .Call (.Subscript (.List es _) i _) args [] _ => if plainI i = true then callLs G Γ (evP G Γ σ (rec Γ σ) i) (evs (rec Γ σ) args) es args else fail
  | .Call (.Attribute o m q) [e] [] r => if (q.endLine == r.line) = true ∧ notStar e = true ∧ plainO o = true ∧ methN m = true then do
      let x ← evP G Γ σ (rec Γ σ) o
      methD x m (evP G Γ σ (rec Γ σ) e)
    else fail
  | _ => fail
def evE (G : Gs) : Nat → Cxt → St → Expr → M D
  | 0 => fun _ _ _ => fail
  | n + 1 => evF G (evE G n)

/-! ### statements -/
inductive Flow where
  | nx (σ : St) | ret (d : D) (own : Bool) | brk (σ : St) | ct (σ : St) | rz (x : Exc) (σ : St)
def stE {α : Type} (m : M α) (σ : St) (k : α → M Flow) : M Flow := fun s => match m s with
  | .ok a s' => k a s'
  | .exc x s' => .ok (.rz x σ) s'
  | .fail => .fail
/-- the names whose lists an expression may keep -/
def escP (f : Expr → List Str) : Expr → List Str
  | .Name _ _ => []
  | e => f e
def esc (G : Gs) (sc : Scope) : Nat → Expr → List Str
  | 0, _ => []
  | n + 1, e =>
    let f := esc G sc n
    let p := escP f
    match e with
    | .Name x _ => [x]
    | .BinOp a _ b _ => p a ++ p b
    | .UnaryOp _ a _ => f a
    | .BoolOp _ es _ => es.flatMap f
    | .Compare a _ bs _ => p a ++ bs.flatMap p
    | .IfExp c a b _ => f c ++ f a ++ f b
    | .Tuple es _ _ => es.flatMap f
    | .List es _ => es.flatMap f
    | .Dict ks vs _ => (ks.filterMap id).flatMap f ++ vs.flatMap f
    | .Subscript a (.Slice lo hi _ _) _ => p a ++ (lo.map p).getD [] ++ (hi.map p).getD []
    | .Subscript a i _ => p a ++ p i
    | .ListComp elt [⟨_, it, ifs, _⟩] _ _ => p it ++ f elt ++ ifs.flatMap f
    | .ListComp elt [⟨_, it, ifs, _⟩, ⟨_, it1, ifs1, _⟩] _ _ => p it ++ f elt ++ ifs.flatMap f ++ f it1 ++ ifs1.flatMap f
    | .Call (.Name g _) args _ _ => if G.bare g = true then args.flatMap p else match G.fns g with
      | some fg => if fg.fl = true then args.flatMap p else args.flatMap f
      | none => args.flatMap f
    | .Call (.Attribute o _ _) args _ _ => p o ++ args.flatMap p
    | .Call (.Subscript _ i _) args _ _ => p i ++ args.flatMap f
    | _ => []
/-- is it a list made anew -/
def isL : D → Bool
  | .list _ => true
  | .dict kvs => dOk kvs
  | _ => false
def frF (G : Gs) : Nat → Expr → Bool
  | 0, _ => false
  | n + 1, e => match e with
      | .List _ _ => true
      | .Dict _ _ _ => true
      | .ListComp _ _ _ _ => true
      | .BinOp _ _ _ _ => true
      | .Subscript _ (.Slice _ _ none _) _ => true
      | .Subscript _ (.Slice none none (some _) _) _ => true
      | .IfExp _ a b _ => frF G n a && frF G n b
      | .Call (.Name f _) _ _ _ => if G.bare f = true then frB f else match G.fns f with
        | some fg => fg.fr && !fg.fl
        | none => false
      | _ => false
def freshE (G : Gs) (n : Nat) (e : Expr) (d : D) : Bool := frF G n e && isL d
def frz : St → List Nat → St
  | σ, [] => σ
  | σ, i :: is => match σ[i]? with
    | some (some (d, _)) => frz (σ.set i (some (d, false))) is
    | _ => frz σ is
def freeze (Γ : Cxt) (σ : St) (xs : List Str) : St := frz σ (xs.filterMap (slot Γ))
def fz (G : Gs) (Γ : Cxt) (σ : St) (e : Expr) : St := freeze Γ σ (esc G Γ.sc 40 e)
/-- a list that a name owns -/
def ownL (Γ : Cxt) (σ : St) (x : Str) : Option (Nat × List D) :=
  if okName x = true ∧ kindL Γ.sc x = true then match slot Γ x with
    | some i => match σ[i]? with
      | some (some (.list ds, true)) => some (i, ds)
      | _ => none
    | none => none
  else none
/-- a dict that a name owns -/
def ownD (Γ : Cxt) (σ : St) (x : Str) : Option (Nat × List (D × D)) :=
  if okName x = true ∧ kindL Γ.sc x = true then match slot Γ x with
    | some i => match σ[i]? with
      | some (some (.dict kvs, true)) => some (i, kvs)
      | _ => none
    | none => none
  else none
def isName : Expr → Option Str
  | .Name x _ => some x
  | _ => none
def whileL (t : St → M Bool) (body : St → M Flow) : Nat → St → M Flow
  | 0, _ => fail
  | w + 1, σ => stE (t σ) σ fun b => if b = true then do
      let fl ← body σ
      match fl with
      | .nx σ' => whileL t body w σ'
      | .ct σ' => whileL t body w σ'
      | .brk σ' => pure (.nx σ')
      | .ret d o => pure (.ret d o)
      | .rz x σ' => pure (.rz x σ')
    else pure (.nx σ)
def forL (bind : St → D → Option St) (body : St → M Flow) : List D → St → M Flow
  | [], σ => pure (.nx σ)
  | d :: ds, σ => match bind σ d with
    | none => fail
    | some σ1 => do
      let fl ← body σ1
      match fl with
      | .nx σ' => forL bind body ds σ'
      | .ct σ' => forL bind body ds σ'
      | .brk σ' => pure (.nx σ')
      | .ret d o => pure (.ret d o)
      | .rz x σ' => pure (.rz x σ')
def thenF (m : M Flow) (k : St → M Flow) : M Flow := do
  let fl ← m
  match fl with
  | .nx σ => k σ
  | fl => pure fl
def oneLine : List Expr → Bool
  | .Name _ p :: es => es.all fun e => match e with
    | .Name _ q => q.line == p.line
    | _ => false
  | _ => false
def namesOf : List Expr → Option (List Str)
  | [] => some []
  | .Name x _ :: es => (namesOf es).map (x :: ·)
  | _ => none
def setNs (Γ : Cxt) : St → List (Str × D × Bool) → Option St
  | σ, [] => some σ
  | σ, (x, d, o) :: r => (setN Γ σ x d o).bind fun σ' => setNs Γ σ' r
def isLocal (sc : Scope) (x : Str) : Bool := match sc.names.lookup x with
  | some .local => true | _ => false
/-- the stores of a pair or a triple made in the head -/
def parOk (Γ : Cxt) (ts vs : List Expr) (xs : List Str) : Bool :=
  (ts.length == 2 || ts.length == 3) && vs.length == ts.length && oneLine ts && xs.all (isLocal Γ.sc) && xs.eraseDups.length == xs.length && vs.all notStar && !(vs.all (foldedForSure 8)) && !(vs.all (constantsAlone 8))
def listComp : Expr → Bool
  | .ListComp _ _ _ _ => true | .SetComp _ _ _ _ => true | .DictComp _ _ _ _ _ => true
  | _ => false
def setOk (Γ : Cxt) (x : Str) : Bool := okName x && (match Γ.st.names.lookup x with
  | some .local => true | some .cell => true | _ => false) && (Γ.N.idxOf? x).isSome
def nx1 (o : Option St) : M Flow := lift (o.map .nx)
/-- return e -/
def stRet (G : Gs) (ev : Cxt → St → Expr → M D) (Γ : Cxt) (σ : St) (e : Expr) : M Flow :=
  stE (ev Γ (freeze Γ σ Γ.N) e) (freeze Γ σ Γ.N) fun d => pure (.ret d (freshE G 40 e d))
def stRetN (ev : Cxt → St → Expr → M D) (Γ : Cxt) (σ : St) (x : Str) (p : Pos) : M Flow := match ownL Γ σ x with
  | some (_, ds) => pure (.ret (.list ds) true)
  | none => match ownD Γ σ x with
    | some (_, kvs) => if dOk kvs = true then pure (.ret (.dict kvs) true) else fail
    | none => stE (ev Γ σ (.Name x p)) σ fun d => pure (.ret d false)
def iterNames : Expr → List Str
  | .Name x _ => [x]
  | .Call _ args _ _ => args.filterMap isName
  | _ => []
def stFor (G : Gs) (ev : Cxt → St → Expr → M D) (ex : St → List Stmt → M Flow) (Γ : Cxt) (σ : St) (tg it : Expr) (body : List Stmt) : M Flow :=
  let σ0 := freeze Γ (fz G Γ σ it) (iterNames it)
  stE (iterE G Γ (ev Γ σ0) tg it) σ0 fun items => forL (fun σ d => bindT Γ σ tg d) (fun σ => ex σ body) items σ0
/-- x = e -/
def stAsg (G : Gs) (ev : Cxt → St → Expr → M D) (Γ : Cxt) (σ : St) (x : Str) (e : Expr) : M Flow :=
  if setOk Γ x = true then stE (ev Γ (fz G Γ σ e) e) (fz G Γ σ e) fun d => nx1 (setN Γ (fz G Γ σ e) x d (freshE G 40 e d)) else fail
/-- x = l.pop(..) -/
def stPop (ev : Cxt → St → Expr → M D) (Γ : Cxt) (σ : St) (x l : Str) (q r : Pos) (args : List Expr) : M Flow :=
  if setOk Γ x = true ∧ (q.endLine == r.line) = true ∧ noStars args = true then match ownL Γ σ l with
    | some (i, ds) => match args with
      | [] => match ds.getLast? with
        | some d => nx1 (setN Γ (σ.set i (some (.list ds.dropLast, true))) x d false)
        | none => fail
      | [e] => stE (ev Γ σ e) σ fun j => match j with
        | .int j => match L2.ixN ds.length j with
          | some k => match ds[k]? with
            | some d => if in62 j = true then nx1 (setN Γ (σ.set i (some (.list (ds.eraseIdx k), true))) x d false) else fail
            | none => fail
          | none => fail
        | _ => fail
      | _ => fail
    | none => fail
  else fail
def idxL (Γ : Cxt) (xs : List Str) : List Nat := xs.filterMap fun x => Γ.N.idxOf? x
def isNil : Expr → Bool
  | .List [] _ => true
  | .Dict [] [] _ => true
  | _ => false
def scal : D → Bool
  | .int _ => true
  | .bool _ => true
  | .none => true
  | .str _ => true
  | _ => false
/-- the stores of a pair: what is made anew is the name's own -/
def setPar (ns : List Bool) (σ : St) (is : List Nat) (ds : List D) : Option St := match ns, is, ds with
  | [p, q], [i, j], [d, e] => some ((σ.set i (some (d, p && isL d))).set j (some (e, q && isL e)))
  | _, _, _ => setAll σ is ds
/-- a, b = e, f -/
def stPar (G : Gs) (ev : Cxt → St → Expr → M D) (Γ : Cxt) (σ : St) (ts vs : List Expr) : M Flow := match namesOf ts with
  | some xs => if parOk Γ ts vs xs = true ∧ xs.all (setOk Γ) = true then
      let σ0 := freeze Γ σ (vs.flatMap (esc G Γ.sc 40))
      stE (evs (ev Γ σ0) vs) σ0 fun ds => nx1 (setPar (vs.map (frF G 40)) σ0 (idxL Γ xs) ds)
    else fail
  | none => fail
def stTup (G : Gs) (ev : Cxt → St → Expr → M D) (Γ : Cxt) (σ : St) (tg e : Expr) : M Flow :=
  stE (ev Γ (fz G Γ σ e) e) (fz G Γ σ e) fun d => nx1 (bindT Γ (fz G Γ σ e) tg d)
/-- a pair whose stores wait for the tuple -/
def offPar1 (Γ : Cxt) (ts vs : List Expr) : Bool := (ts.length == 2 || ts.length == 3) && vs.length == ts.length && vs.all notStar && !(ts.all fun e => match e with
  | .Name x p => isLocal Γ.sc x && p.line == (ts.head?.map (·.pos.line)).getD 0
  | _ => false)
/-- .. or whose tuple is a written one -/
def offPar (Γ : Cxt) (ts vs : List Expr) : Bool := offPar1 Γ ts vs || ((ts.length == 2 || ts.length == 3) && vs.length == ts.length && vs.all notStar && vs.all (foldedForSure 8))
def noSlice : Expr → Bool
  | .Slice _ _ _ _ => false
  | _ => true
/-- l[i] = e -/
def stSub (G : Gs) (ev : Cxt → St → Expr → M D) (Γ : Cxt) (σ : St) (l : Str) (i e : Expr) : M Flow :=
  let σ0 := fz G Γ σ e
  if (okName l = true ∧ (slot Γ l).isSome = true) ∧ noSlice i = true then stE (ev Γ σ0 e) σ0 fun d => match ownL Γ σ0 l with
    | some (k, ds) => stE (ev Γ σ0 i) σ0 fun j => match j with
      | .int j => match L2.ixN ds.length j with
        | some n => pure (.nx (σ0.set k (some (.list (ds.set n d), true))))
        | none => fail
      | _ => fail
    | none => match ownD Γ σ0 l with
      | some (k, kvs) => stE (ev Γ σ0 i) σ0 fun j => match keyD j with
        | some _ => if kvs.length < 1000 then pure (.nx (σ0.set k (some (.dict (dPut kvs j d), true)))) else fail
        | none => fail
      | none => fail
  else fail
def augI (op : Operator) (a b : Int) : Option Int := match op with
  | .Add => some (a + b)
  | .Sub => some (a - b)
  | .Mult => if a.natAbs.log2 + b.natAbs.log2 < 1000000 then some (a * b) else none
  | _ => none
/-- x op= e -/
def stAug (ev : Cxt → St → Expr → M D) (Γ : Cxt) (σ : St) (x : Str) (op : Operator) (e : Expr) : M Flow :=
  if setOk Γ x = true then match Γ.N.idxOf? x with
    | some i => match σ[i]? with
      | some (some (.int a, _)) => stE (ev Γ σ e) σ fun d => match d with
        | .int b => match augI op a b with
          | some c => nx1 (setN Γ σ x (.int c) false)
          | none => fail
        | _ => fail
      | _ => fail
    | none => fail
  else fail
/-- l[i] op= e -/
def stAugS (ev : Cxt → St → Expr → M D) (Γ : Cxt) (σ : St) (l : Str) (i : Expr) (op : Operator) (e : Expr) : M Flow :=
  if (okName l = true ∧ (slot Γ l).isSome = true) ∧ noSlice i = true then match ownL Γ σ l with
    | some (k, ds) => stE (ev Γ σ i) σ fun j => match j with
      | .int j => match L2.ixN ds.length j with
        | some n => match ds[n]? with
          | some (.int a) => stE (ev Γ σ e) σ fun d => match d with
            | .int b => match augI op a b with
              | some c => pure (.nx (σ.set k (some (.list (ds.set n (.int c)), true))))
              | none => fail
            | _ => fail
          | _ => fail
        | none => fail
      | _ => fail
    | none => fail
  else fail
/-- l.append(e) -/
def stApp (G : Gs) (ev : Cxt → St → Expr → M D) (Γ : Cxt) (σ : St) (l : Str) (q r : Pos) (e : Expr) : M Flow :=
  let σ0 := fz G Γ σ e
  if (q.endLine == r.line) = true ∧ notStar e = true then match ownL Γ σ0 l with
    | some (k, ds) => stE (ev Γ σ0 e) σ0 fun d => if ds.length < sline then pure (.nx (σ0.set k (some (.list (ds ++ [d]), true)))) else fail
    | none => fail
  else fail
/-- l.extend(e) -/
def stExt (G : Gs) (ev : Cxt → St → Expr → M D) (Γ : Cxt) (σ : St) (l : Str) (q r : Pos) (e : Expr) : M Flow :=
  let σ0 := fz G Γ σ e
  if (q.endLine == r.line) = true ∧ notStar e = true then match ownL Γ σ0 l with
    | some (k, ds) => stE (ev Γ σ0 e) σ0 fun d => match d with
      | .list es => if ds.length + es.length ≤ sline then pure (.nx (σ0.set k (some (.list (ds ++ es), true)))) else fail
      | _ => fail
    | none => fail
  else fail
/-- l.pop() -/
def stPop0 (Γ : Cxt) (σ : St) (l : Str) (q r : Pos) : M Flow :=
  if (q.endLine == r.line) = true then match ownL Γ σ l with
    | some (i, ds) => if ds.length = 0 then fail else pure (.nx (σ.set i (some (.list ds.dropLast, true))))
    | none => fail
  else fail
def stExp (G : Gs) (ev : Cxt → St → Expr → M D) (Γ : Cxt) (σ : St) (e : Expr) : M Flow :=
  if listComp e = true then fail else stE (ev Γ (fz G Γ σ e) e) (fz G Γ σ e) fun _ => pure (.nx (fz G Γ σ e))
def stMet (G : Gs) (ev : Cxt → St → Expr → M D) (Γ : Cxt) (σ : St) (l m : Str) (q r : Pos) (args : List Expr) : M Flow :=
  if m = ("append" : Str) then match args with
    | [e] => stApp G ev Γ σ l q r e
    | _ => fail
  else if m = ("pop" : Str) then match args with
    | [] => stPop0 Γ σ l q r
    | _ => fail
  else if m = ("extend" : Str) then match args with
    | [e] => stExt G ev Γ σ l q r e
    | _ => fail
  else fail
def stRaise (G : Gs) (Γ : Cxt) (σ : St) (c m : Str) : M Flow :=
  if okName c = true ∧ kindG Γ.sc c = true ∧ G.exc c = true then (if G.ini c = true then pure (.rz ⟨c, [("reason", .str m)]⟩ σ) else pure (.rz ⟨c, []⟩ σ)) else fail
/-- what a clause hands back: x the error, on the error's name -/
def hexp (G : Gs) (Γ : Cxt) (on : Option Str) (x : Exc) : Nat → Expr → Option D
  | 0, _ => none
  | _ + 1, .Constant (.int i) _ _ => some (.int i)
  | _ + 1, .Constant (.str i) _ _ => some (.str i)
  | _ + 1, .Constant (.bool i) _ _ => some (.bool i)
  | _ + 1, .Constant .none _ _ => some .none
  | _ + 1, .Call (.Name f _) [.Name n _, .Name F _] [] _ =>
    if f = ("isinstance" : Str) ∧ gname G Γ f = true ∧ on = some n ∧ (okName n = true ∧ okName F = true) ∧ kindG Γ.sc F = true then (G.sub x.cls F).map .bool else none
  | _ + 1, .Attribute (.Name n _) f _ => if f = ("reason" : Str) ∧ on = some n ∧ okName n = true then (if G.ini x.cls = true then (match x.flds with
    | [(_, .str m)] => some (.str m)
    | _ => none) else none) else none
  | k + 1, .BoolOp .And [a, b] _ => match hexp G Γ on x k a, hexp G Γ on x k b with
    | some (.bool p), some (.bool q) => some (.bool (p && q))
    | _, _ => none
  | k + 1, .BinOp a .Add b _ => match hexp G Γ on x k a, hexp G Γ on x k b with
    | some (.str p), some (.str q) => if p.length + q.length ≤ sline then some (.str (p ++ q)) else none
    | _, _ => none
  | k + 1, .IfExp (.Call f as ks p) a b _ => match hexp G Γ on x k (.Call f as ks p) with
    | some (.bool t) => if t = true then hexp G Γ on x k a else hexp G Γ on x k b
    | _ => none
  | _, _ => none
def hexpL (G : Gs) (Γ : Cxt) (on : Option Str) (x : Exc) : List Expr → Option (List D)
  | [] => some []
  | e :: es => if notStar e = true then (match hexp G Γ on x 5 e, hexpL G Γ on x es with
    | some d, some ds => some (d :: ds)
    | _, _ => none) else none
def hret (G : Gs) (Γ : Cxt) (on : Option Str) (x : Exc) : Expr → Option D
  | .List es _ => if es.length ≤ 5 then (hexpL G Γ on x es).map .list else none
  | e => hexp G Γ on x 5 e
def onIn (Γ : Cxt) (on : Option Str) (n : Nat) : Bool := match on with
  | none => true
  | some x => match Γ.N.idxOf? x with
    | some i => decide (i < n)
    | none => false
abbrev Clause := Str × Option Str × Expr
def clauses (G : Gs) (Γ : Cxt) (x : Exc) (σ' : St) : List Clause → M Flow
  | [] => pure (.rz x σ')
  | (c, on, e) :: r => if x.cls = c then (match hret G Γ on x e with
      | some d => pure (.ret d false)
      | none => fail) else clauses G Γ x σ' r
def catchF (G : Gs) (Γ : Cxt) (l : List Clause) (fl : Flow) : M Flow := match fl with
  | .rz x σ' => if G.exc x.cls = true ∧ (l.all fun p => onIn Γ p.2.1 σ'.length) = true then clauses G Γ x σ' l else fail
  | .nx σ' => pure (.nx σ')
  | .ret d o => pure (.ret d o)
  | .brk σ' => pure (.brk σ')
  | .ct σ' => pure (.ct σ')
def onOk (Γ : Cxt) : Option Str → Bool
  | none => true
  | some n => isLocal Γ.sc n && (Γ.N.idxOf? n).isSome
def clOk (G : Gs) (Γ : Cxt) (p : Clause) : Bool := okName p.1 && kindG Γ.sc p.1 && G.exc p.1 && onOk Γ p.2.1
def stTry (G : Gs) (ex : St → List Stmt → M Flow) (Γ : Cxt) (σ : St) (body : List Stmt) (l : List Clause) : M Flow :=
  if l.all (clOk G Γ) = true ∧ l ≠ [] then M.bind (ex σ body) (catchF G Γ l) else fail
/-- turns that a while may take -/
def msr (σ : St) : Nat := (σ.map fun s => match s with
  | some (.int i, _) => i.natAbs
  | some (.list ds, _) => ds.length
  | some (.tuple ds, _) => ds.length
  | _ => 0).sum
def raiseOf : Expr → Option (Str × Str)
  | .Call (.Name c _) [.Constant (.str m) _ _] [] _ => some (c, m)
  | _ => none
def tryOf : List ExceptHandler → Option (List Clause)
  | [] => some []
  | .ExceptHandler (some (.Name c _)) on [.Return (some e) _] _ :: r => match tryOf r with
    | some l => some ((c, on, e) :: l)
    | none => none
  | _ => none
def exec1 (G : Gs) (ev : Cxt → St → Expr → M D) (w : Nat) (ex : St → List Stmt → M Flow) (Γ : Cxt) (σ : St) : Stmt → M Flow
  | .Pass _ => pure (.nx σ)
  | .Break _ => pure (.brk σ)
  | .Continue _ => pure (.ct σ)
  | .Return none _ => pure (.ret .none false)
  | .Return (some (.Name x p)) _ => stRetN ev Γ σ x p
  | .Return (some e) _ => stRet G ev Γ σ e
  | .If c a b _ => stE (tst (ev Γ σ) c) σ fun t => if t = true then ex σ a else ex σ b
  | .While c body [] _ => whileL (fun σ => tst (ev Γ σ) c) (fun σ => ex σ body) (w + msr σ) σ
  | .For tg it body [] _ => stFor G ev ex Γ σ tg it body
  | .Assign [.Name x _] (.Call (.Attribute (.Name l p) m q) args [] r) pos => if m = ("pop" : Str) then stPop ev Γ σ x l q r args else stAsg G ev Γ σ x (.Call (.Attribute (.Name l p) m q) args [] r)
  | .Assign [.Name x _] e _ => stAsg G ev Γ σ x e
  | .Assign [.Tuple ts k p] (.Tuple vs k2 p2) _ => if offPar Γ ts vs = true then stTup G ev Γ σ (.Tuple ts k p) (.Tuple vs k2 p2) else stPar G ev Γ σ ts vs
  | .Assign [.Tuple ts k p] e _ => stTup G ev Γ σ (.Tuple ts k p) e
  | .Assign [.Subscript (.Name l _) i _] e _ => stSub G ev Γ σ l i e
  | .AugAssign (.Name x _) op e _ => stAug ev Γ σ x op e
  | .AugAssign (.Subscript (.Name l _) i _) op e _ => stAugS ev Γ σ l i op e
  | .Expr (.Call (.Attribute (.Name l _) m q) args [] r) _ => stMet G ev Γ σ l m q r args
  | .Expr e _ => stExp G ev Γ σ e
  | .Raise (some e) none _ => match raiseOf e with
    | some (c, m) => stRaise G Γ σ c m
    | none => fail
  | .Try body hs [] [] _ => match tryOf hs with
    | some l => stTry G ex Γ σ body l
    | none => fail
  | _ => fail
def exec (G : Gs) (ev : Cxt → St → Expr → M D) (w : Nat) (Γ : Cxt) : Nat → St → List Stmt → M Flow
  | 0, _, _ => fail
  | _ + 1, σ, [] => pure (.nx σ)
  | n + 1, σ, st :: rest => thenF (exec1 G ev w (exec G ev w Γ n) Γ σ st) fun σ' => exec G ev w Γ n σ' rest

/-! ### defs -/
structure Fd where
  ps : List Str
  N : List Str
  sc : Scope
  body : List Stmt
  flg : Flg
/-- the program: its defs by name; prim: what the drawing defs do -/
structure Pg where
  fd : Str → Option Fd
  prim : Str → Option (List D → M D)
  cst : Str → Option D
  bare : Str → Bool
  exc : Str → Bool
  ini : Str → Bool
  sub : Str → Str → Option Bool
def Pg.flg (P : Pg) (f : Str) : Option Flg := match P.prim f with
  | some _ => some ⟨false, true⟩
  | none => (P.fd f).map (·.flg)
def start (N : List Str) (ds : List D) : St := (ds.map fun d => some (d, false)) ++ List.replicate (N.length - ds.length) none
def endF (fg : Flg) : Flow → M D
  | .nx _ => if fg.fr = true then fail else pure .none
  | .ret d own => if (fg.fr = true ∧ own = false) ∨ (fg.fl = true ∧ flat d = false) then fail else pure d
  | .rz x _ => throwX x
  | _ => fail
def Pg.gl (P : Pg) (call : Str → List D → M D) : Gs := ⟨P.cst, P.flg, call, P.bare, P.exc, P.ini, P.sub⟩
def runFd (G : Gs) (w : Nat) (F : Fd) (ds : List D) : M D :=
  if ds.length = F.ps.length then do
    let fl ← quiet (exec G (evE G 40) w ⟨F.N, F.sc, F.sc⟩ 60 (start F.N ds) F.body)
    endF F.flg fl
  else fail
def Pg.call (P : Pg) (w : Nat) : Nat → Str → List D → M D
  | 0, _, _ => fail
  | k + 1, f, ds => match P.prim f with
    | some p => p ds
    | none => match P.fd f with
      | some F => runFd (P.gl (P.call w k)) w F ds
      | none => fail
end Py

set_option Elab.async false
set_option linter.all false
set_option maxRecDepth 100000
set_option maxHeartbeats 2000000
/-! An own exception over ValueError whose __init__ says super().__init__(x); self.f = x. -/
namespace PySem
namespace RefX
open PySem.W PySem.Calls PyProof.Rows PySem.HandSPX
def iA (p1 p2 : Pos) : Arguments := { posonlyargs := [], args := [{ arg := "self", annotation := none, pos := p1 }, { arg := "reason", annotation := none, pos := p2 }], vararg := none, kwonlyargs := [], kw_defaults := [], kwarg := none, defaults := [] }
def iB (a1 a2 a3 a4 a5 a6 q1 q2 q3 q4 : Pos) : List Stmt :=
  [.Expr (.Call (.Attribute (.Call (.Name "super" a1) [] [] a2) "__init__" a3) [.Name "reason" a4] [] a5) a6, .Assign [.Attribute (.Name "self" q1) "reason" q2] (.Name "reason" q3) q4]
def rS : Scope := { kind := .function, names := [(PySem.Str.ofString "self", .local), (PySem.Str.ofString "reason", .local), (PySem.Str.ofString "__class__", .free), (PySem.Str.ofString "super", .globalImplicit)], isGenerator := false, isCoroutine := false, more := [] }
/-- what the written part says of the class at C, of its __init__ at fI -/
structure RefTxt (prog : Program) (K : Frag) (C fI : Addr) : Prop where
  cls : ∃ nm q N bs bm sn sub ab col dd k0 k1 k2 k3 k5, K.lookup C = some (excClassObj nm q C N bs bm true sn sub ab col dd k0 k1 k2 k3 k5 "ValueError.__new__") ∧ refsVE bm = true
  sup : ks_superIn K C C "__init__" = some (some (.builtin "ValueError.__init__"))
  sa : findIn K (.ref C) "__setattr__" = some (some (.builtin "object.__setattr__"))
  ga : findIn K (.ref C) "__getattribute__" = some (some (.builtin "BaseException.__getattribute__"))
  gg : findIn K (.ref C) "__getattr__" = some none
  noN : findIn K (.ref C) "reason" = some none
  iC : findIn K (.ref C) "__init__" = some (some (.ref fI))
  tC : typeIn K (.ref fI) = some (.type "function")
  kC : keepIn K (.ref C) = true
  exC : subIn K (.ref C) (.type "BaseException") = some true
  veC : subIn K (.ref C) (.type "ValueError") = some true
  mC : mroIn K C (.ref C) = some true
  isC : (clsIn K C).isSome = true
  tyC : typeIn K (.ref C) = some (.type "type")
  hdC : hasDictIn K C = true
  any : nsIn K cStatics "thirdparty.any" = some none
  sg : nsIn K mainGlobals "super" = some none
  htop : (prog.main.scope.names.lookup ("super" : Str)).isSome = false
  fn : ∃ (oc : Value) (od : Option Addr) (doc pm : Value) (an : Option Addr) (cda cc : Addr) (ct : Value) (osl : Array (Option Value)) (p1 p2 a1 a2 a3 a4 a5 a6 q1 q2 q3 q4 : Pos) (ccl cl : Value) (cdd cld : Option Addr) (ccs csl : Array (Option Value)) (vs : Array Value) (file : Str) (tf : Tok),
    K.lookup fI = some ⟨oc, od, .func (ksFn "__init__" "Refused.__init__" (iA p1 p2) (iB a1 a2 a3 a4 a5 a6 q1 q2 q3 q4) rS .none .none doc pm an (.ref cda) ct cc), osl⟩ ∧ codeIn K (.ref cda) "Refused.__init__" = true ∧
      K.lookup cda = some ⟨ccl, cdd, .fields vs, ccs⟩ ∧ vs[2]? = some (.str file tf) ∧ ((prog.main.file : Str) == file) = true ∧ K.lookup cc = some ⟨cl, cld, .cell (some (.ref C)), csl⟩ ∧
      ∀ env : Env, ∃ pl, eval (.Call (.Attribute (.Call (.Name "super" a1) [] [] a2) "__init__" a3) [.Name "reason" a4] [] a5) env = (do
        let ov ← attributeBase (.Call (.Name "super" a1) [] [] a2) "__init__" env (eval (.Call (.Name "super" a1) [] [] a2) env)
        standAt a3.atName
        let (f, first) ← holding [ov] (getMethod ov "__init__" pl)
        callWith a5 f first (backTo a5 (starEach [.Name "reason" a4] env)) [])
section
variable {prog : Program} {w : World} {A : Around} {E : Value → Shared → Prop} {R : Result → Shared → Prop} {s : Shared} {K : Frag} {C fI : Addr} 
/-- what __init__ leaves of a fresh exception at x -/
structure InitEnd (h h' : Heap) (x C dx t1 : Addr) (v : Value) : Prop where
  keep : ∀ b o, b ≠ x → h.get? b = some o → h'.get? b = some o
  obj : h'.get? x = some { cls := .ref C, dict := some dx, data := .fields #[.ref t1, .none, .none, .none, .bool false, .none] }
  dbig : h.objs.size ≤ dx
  dne : dx ≠ x
  ns : h'.Ns1 dx (fun y => if y = "reason" then some v else none)
theorem call_mw {h : Heap} {g : Array GenState} {d : Drawn} {t : Nat} {os : OsState} {nm q : Str} {N : Addr} {bs bm bmB : List Value} {hdct : Bool} {sn : List Str} {sub : List Value} {ab : Bool} {col : Option Bool} {dd : Option Addr} {k0 k1 k2 k3 k5 : Option Value} {u e t0 : Addr} {rest : List Value} {Q : Value → Shared → Prop}
    (FB : ExcBaseFacts "ValueError" "ValueError.__new__" "ValueError.__init__" bmB) (hC : h.get? C = some (excClassObj nm q C N bs bm hdct sn sub ab col dd k0 k1 k2 k3 k5 "ValueError.__new__")) (he : h.get? e = some (excO C t0)) (hu : h.get? u = some (kxs_mw "ValueError.__init__" e)) (hz : rest.length ≤ sizeLine)
    (hq : ∀ h' t1, (∀ b o, b ≠ e → h.get? b = some o → h'.get? b = some o) → h'.get? e = some (excO C t1) → Q .none ⟨h', g, d, t, os⟩) :
    wpAny (model prog w) A (call (.ref u) rest) Q E ⟨h, g, d, t, os⟩ := by
  refine wpAny_call (codeAny_of_tree ?_)
  show wpAny _ A.in1 (callAny (.ref u) ⟨rest, []⟩) _ _ _
  simp only [callAny]
  refine wpAny_bind (wpAny_load hu ?_)
  simp only [kxs_mw, show (Value.type "method-wrapper" == Value.type "method" || Value.type "method-wrapper" == Value.type "builtin_function_or_method" || Value.type "method-wrapper" == Value.type "method-wrapper") = true by decide, if_true]
  refine KFB.if_so (by decide) ?_
  refine wpAny_bind (check_bound_init FB.toExcCallFacts hC he rfl ?_)
  refine wpAny_bind (wpAny_pure (wpAny_pure ?_))
  refine ⟨plainId_quiet FB.init.plain _, codeAny_builtin FB.initEntry ?_⟩
  exact exc_init_tree (cls := .ref C) (t0 := t0) (dv := none) (c2 := .none) (c3 := .none) (b4 := .bool false) he hz fun h' k e' _ => hq h' _ k e'
theorem ref_init (T : RefTxt prog K C fI) {mg mb : Str → Option Value} {x t0 : Addr} {v : Value} (X : K.In s.heap) (G : s.heap.Ns mainGlobals mg) (B : s.heap.Ns builtinsNs mb) (hb : ∀ x : Str, x ≠ "__name__" → mb x = bootBuiltins x)
    (hlim : s.heap.NoLimit) (hx : s.heap.get? x = some (excO C t0)) (hnx : K.lookup x = none) (hroom : A.depth < recursionLimit)
    (hq : ∀ h' tk dx t1, InitEnd s.heap h' x C dx t1 v → R (.ok (.ret .none)) { s with heap := h', toks := tk }) :
    codeAny (model prog w) A (.call (.ref fI) ⟨[.ref x, v], []⟩) R s := by
  obtain ⟨oc, od, doc, pm, an, cda, cc, ct, osl, p1, p2, a1, a2, a3, a4, a5, a6, q1, q2, q3, q4, ccl, cl, cdd, cld, ccs, csl, vs, file, tf, ho, hcd, hcda, hvs, hfile, hcell, hev⟩ := T.fn
  obtain ⟨nm, q, N, bs, bm, sn, sub, ab, col, dd, k0, k1, k2, k3, k5, hC, hbm⟩ := T.cls
  have hcl : clsIn K C = some { name := nm, bases := bs, mro := .ref C :: bm, ns := N, qualname := q, hasDict := true, slotNames := sn, subclasses := sub, abstract := ab, collection := col, hasDel := false } := by unfold clsIn; rw [hC] <;> rfl
  refine ks_codeAny_call_defAt (fd := ksFn "__init__" "Refused.__init__" (iA p1 p2) (iB a1 a2 a3 a4 a5 a6 q1 q2 q3 q4) rS .none .none doc pm an (.ref cda) ct cc) (body := iB a1 a2 a3 a4 a5 a6 q1 q2 q3 q4) (binds := [("self", .ref x), ("reason", v)]) hroom (X _ _ ho) rfl hlim (codeRec_of X hcd) rfl
    (BindsTo.of_eq (by first | rfl | with_unfolding_all rfl)) (show ∀ x ∈ rS.names, x.2 ≠ .cell by decide) (fun y hy => ?_) (fun h₁ hns k => ?_) rfl rfl rfl
  · rcases List.mem_cons.mp hy with rfl | hy
    · rfl
    rcases List.mem_cons.mp hy with rfl | hy
    · rfl
    · cases hy
  have X₁ : K.In h₁ := X.keeps k
  have hx₁ := k _ _ hx
  have G₁ := G.keeps k
  have B₁ := B.keeps k
  -- super().__init__(p)
  obtain ⟨pl, hpl⟩ := hev (callEnv (ksFn "__init__" "Refused.__init__" (iA p1 p2) (iB a1 a2 a3 a4 a5 a6 q1 q2 q3 q4) rS .none .none doc pm an (.ref cda) ct cc) s.heap.objs.size fI)
  refine ks_wpAt_execs_cons (ks_wpAt_Expr_any (ks_wpAt_MethodCall ?_ hpl) (by rfl) (by rfl))
  have hC₁ : h₁.get? C = _ := X₁ _ _ hC
  refine ks_wpAt_super_base (oc := ⟨ccl, cdd, .fields vs, ccs⟩) rfl rfl rfl rfl (X₁ _ _ ho) rfl rfl rfl (X₁ _ _ hcda) rfl hvs hfile T.htop ?_
  refine ks_loadName_global rfl rfl (loadGlobal_builtin G₁ (mg_none_of X G T.sg) B₁ ((hb _ (by decide +kernel)).trans (by kernel_rfl)) ⟨rfl, ?_⟩)
  refine wpAny_loadName_free rfl rfl rfl ⟨_, X₁ _ _ hcell, rfl⟩ ?_
  refine wpAny_loadName_local rfl rfl hns (v := .ref x) (by first | rfl | with_unfolding_all rfl | kernel_rfl) ?_
  refine ks_wpAny_isType_cls hC₁ rfl ⟨rfl, ?_⟩
  refine ks_wpAny_call_super hC₁ rfl hx₁ rfl (fun c e => by cases e) (looks_mroIn X₁ T.mC) (fun h₂ e₂ k₂ => ?_)
  have X₂ : K.In h₂ := X₁.keeps k₂
  have hx₂ := k₂ _ _ hx₁
  have hC₂ := k₂ _ _ hC₁
  have hn₂ := hns.keeps k₂
  have I₂ : W.InstAt h₂ x (excO C t0) C none := ⟨hx₂, rfl, rfl, trivial⟩
  have hxC : x ≠ C := fun z => by rw [z, show K.lookup C = _ from hC] at hnx; cases hnx
  refine kxs_getMethod kxs_ValueError e₂ (looks_opaque X₂ T.any) (l₀ := .ref C :: bm) (l := bm) ((W.looks_clsIn X₂ hcl).andThen .now) ?_ X₂ ?_ (I₂.type.andThen (looks_subIn X₂ T.veC)) hxC rfl ?_
  · simp [List.dropWhile_cons]
  · have z := T.sup
    unfold ks_superIn at z
    rw [hcl] at z
    simpa [List.dropWhile_cons] using z
  have FB := F.excBase_ValueError
  have k₃ : ∀ b o, h₂.get? b = some o → (h₂.push (kxs_mw "ValueError.__init__" x)).get? b = some o := fun b o e => Heap.get?_push_of_some _ e
  refine kxs_callWith (i := "ValueError.__init__") (x := x) (by rfl) (evalArgs_plain ?_)
  have hn₃ := hn₂.keeps k₃
  show wpAny _ _ (spliced ((false, eval (.Name "reason" a4) _) :: [])) _ _ _
  refine spliced_cons (wpAny_Name (wpAny_loadName_local rfl rfl hn₃ (v := v) (by first | rfl | with_unfolding_all rfl | kernel_rfl) ?_) (by decide))
  refine spliced_nil ⟨Heap.get?_push_at rfl rfl, ?_⟩
  refine call_mw (u := h₂.objs.size) (t0 := t0) FB (k₃ _ _ hC₂) (k₃ _ _ hx₂) (Heap.get?_push_at rfl rfl) (by rw [sizeLine_eq]; exact (by decide : 1 ≤ 16777216)) fun h₄ t1 k₄ hx₄ => ?_
  have X₄ : K.In h₄ := fun a o e => k₄ a o (fun z => by rw [z, hnx] at e; cases e) (k₃ _ _ (X₂ _ _ e))
  have hxL : s.heap.objs.size ≠ x := Nat.ne_of_gt (Heap.lt_size hx)
  have hn₄ := Heap.Ns.at hn₃ (h' := h₄) fun o e => k₄ _ o hxL e
  -- self.reason = reason
  refine wpAt_of_wpAny (wpAny_execs_cons (plainObj_wpAny_Assign_Attribute ?_))
  refine wpAny_Name (wpAny_loadName_local rfl rfl hn₄ (v := v) (by first | rfl | with_unfolding_all rfl | kernel_rfl) ?_) (by decide)
  refine wpAny_Name (wpAny_loadName_local rfl rfl hn₄ (v := .ref x) (by first | rfl | with_unfolding_all rfl | kernel_rfl) ?_) (by decide)
  refine set_plain X₄ (ox := excO C t1) (od := none) ⟨hx₄, rfl, rfl, trivial⟩ T.sa ?_
  refine exc_osa X₄ hx₄ hcl (show refsVE (.ref C :: bm) = true from hbm) rfl T.noN (fun h₅ tk₅ dx k₅ dn dne hx₅ hn₅ => ?_)
  show wpAny _ _ (execs _ _) _ _ _
  have z : s.heap.objs.size < h₄.objs.size := hn₄.lt
  exact wpAny_execs_nil (hq h₅ tk₅ dx t1 ⟨fun b o hb e => k₅ b o hb (k₄ b o hb (k₃ _ _ (k₂ _ _ (k b o e)))), hx₅, Nat.le_of_lt (Nat.lt_of_lt_of_le z dn), dne, hn₅⟩)
/-- a made one -/
structure OwnMade (h h' : Heap) (e C d : Addr) (v : Value) : Prop where
  keep : ∀ b o, h.get? b = some o → h'.get? b = some o
  new : h.objs.size ≤ e
  obj : ∃ oe vs, h'.get? e = some oe ∧ oe.cls = .ref C ∧ oe.dict = some d ∧ oe.data = .fields vs ∧ vs[1]? = some .none
  dbig : h.objs.size ≤ d
  dne : d ≠ e
  ns : h'.Ns1 d (fun y => if y = "reason" then some v else none)
theorem one_size (v : Value) : [v].length ≤ sizeLine := by
  rw [sizeLine_eq]
  exact (by decide : 1 ≤ 16777216)
theorem ref_made (T : RefTxt prog K C fI) {mg mb : Str → Option Value} {v : Value} (X : K.In s.heap) (G : s.heap.Ns mainGlobals mg) (B : s.heap.Ns builtinsNs mb) (hb : ∀ x : Str, x ≠ "__name__" → mb x = bootBuiltins x) (hlim : s.heap.NoLimit) (hroom : A.depth + 1 < recursionLimit)
    (hq : ∀ h' tk e d, OwnMade s.heap h' e C d v → R (.ok (.ret (.ref e))) { s with heap := h', toks := tk }) :
    codeAny (model prog w) A (.call (.ref C) ⟨[v], []⟩) R s := by
  obtain ⟨nm, q, N, bs, bm, sn, sub, ab, col, dd, k0, k1, k2, k3, k5, hC, hbm⟩ := T.cls
  obtain ⟨hp, g, dr, tk, os⟩ := s
  have k : ∀ b o, hp.get? b = some o → ((hp.push (kdv_tup [v])).push (excO C hp.objs.size)).get? b = some o := fun b o e => Heap.get?_push_of_some _ (Heap.get?_push_of_some _ e)
  have hget : ((hp.push (kdv_tup [v])).push (excO C hp.objs.size)).get? (hp.objs.size + 1) = some (excO C hp.objs.size) := by heap_get
  have hnx : K.lookup (hp.objs.size + 1) = none := by
    cases e : K.lookup (hp.objs.size + 1) with
    | none => rfl
    | some o =>
      have z : hp.get? (hp.objs.size + 1) = some o := X _ _ e
      exact absurd (Nat.lt_of_succ_lt (Heap.lt_size z)) (Nat.lt_irrefl _)
  refine call_own F.excBase_ValueError (fun X => refsVE_contains X bm hbm) (X _ _ hC) (looks_findIn X T.iC) (fun self => bind_fn X self T.tC) (one_size v) ?_
  refine ref_init (s := ⟨(hp.push (kdv_tup [v])).push (excO C hp.objs.size), g, dr, tk, os⟩) T (X.keeps k) (G.keeps k) (B.keeps k) hb (hlim.keeps k) hget hnx ?_ fun h' tk' dx t1 ⟨k', hx, dn, dne, hns⟩ => ?_
  · show A.depth + 1 < recursionLimit
    exact hroom
  · have old : ∀ b o, hp.get? b = some o → h'.get? b = some o := fun b o e => k' b o (Nat.ne_of_lt (Nat.lt_succ_of_lt (Heap.lt_size e))) (k b o e)
    have z : hp.objs.size + 1 + 1 ≤ dx := by
      first
        | (simpa only [Heap.size_push] using dn)
        | exact dn
        | (have q := dn; rw [Heap.size_push, Heap.size_push] at q; exact q)
    exact ⟨rfl, hq h' tk' (hp.objs.size + 1) dx ⟨old, Nat.le_succ _, ⟨_, _, hx, rfl, rfl, rfl, rfl⟩, Nat.le_trans (Nat.le_trans (Nat.le_succ _) (Nat.le_succ _)) z, dne, hns⟩⟩
end
end RefX
end PySem
namespace L2
open PySem PySem.Spec PyProof.Rows
theorem relO_ref {v : V} {v' : Value} (r : RelV v v') (f : Str) : RelO (List.lookup f [(("reason" : Str), v)]) (if f = "reason" then some v' else none) := by
  by_cases hw : f = "reason"
  · subst hw
    rw [if_pos rfl]
    have q : List.lookup ("reason" : Str) [(("reason" : Str), v)] = some v := by simp [List.lookup]
    rw [q]
    exact r
  · rw [if_neg hw]
    have qw : (f == ("reason" : Str)) = false := by simpa using hw
    have q2 : List.lookup f [(("reason" : Str), v)] = none := by simp [List.lookup, qw]
    rw [q2]
    trivial
section
variable {X : Cx} {C fI : Addr}
/-- C(e) -/
def tMkRef (C : Addr) (ta : TA) : St → Hp → XK → Prop := fun σ H Q => ta σ H fun vs H1 => ∃ v, vs = [v] ∧ ∀ d, H1 d = none → Q (.ref C) (some d) (upd H1 d (.xd [(("reason" : Str), v)]))
theorem pmk_ref {x : Str} {a : Expr} {ta : TA} {p pos : Pos} {k : Nat} (T : PySem.RefX.RefTxt X.prog X.K C fI) (hm : X.mg x = some (.ref C)) (hr : Room k X.A) (ha : PA X [a] ta) (hg : Gl X x) (hdb : (x == ("__debug__" : Str)) = false)
    (he : starEach (a :: []) X.env = (false, eval a X.env) :: starEach [] X.env := by rfl) (hpl : (backTo pos (starEach [] X.env)).any (·.1) = false := by rfl) :
    PMk X (.Call (.Name x p) [a] [] pos) (tMkRef C ta) := by
  intro pins s σ H Q I h
  refine wpAny_Call_Name_kw (ld_glob I hg hm ?_ hdb)
  refine PySem.W.callWith_K (h₀ := X.base) I.ok.mod.kin T.kC (thn (ha.run pos pins s σ H _ I h) fun us s1 hh => ?_) he hpl
  obtain ⟨vs, H1, I1, r1, v, ev, q1⟩ := hh
  subst ev
  refine ⟨I1.kIn, ?_⟩
  cases r1 with
  | cons rv rn =>
    rename_i v' us'
    cases rn
    show wpAny _ _ (call (.ref C) [v']) _ _ _
    have hlim := I1.nolimit
    have hG := I1.mod.glob.keeps I1.bk
    obtain ⟨mb, hB, hb⟩ := I1.mod.blt
    have hB := hB.keeps I1.bk
    obtain ⟨hp, g, dr, tk, os⟩ := s1
    refine wpAny_call (PySem.RefX.ref_made T I1.kIn hG hB hb hlim (by have := hr.dp; omega) fun h' tk' e d M => ?_)
    show MkP X pins σ Q (.ref e) ⟨h', g, dr, tk', os⟩
    obtain ⟨oe, fv, hoe, hc, hd, hdat, h1⟩ := M.obj
    have hns := M.ns
    obtain ⟨G', g1, g2⟩ := restrict h' fun b => decide (b ≠ e)
    have gk : ∀ b, b ≠ e → G'.get? b = h'.get? b := fun b hb => g1 b (decide_eq_true hb)
    have ge : G'.get? e = none := g2 e (by simp)
    have old : ∀ b o, hp.get? b = some o → G'.get? b = some o := fun b o q => (gk b (Nat.ne_of_lt (Nat.lt_of_lt_of_le (Heap.lt_size q) M.new))).trans (M.keep b o q)
    have ob : ObjOk X.prog X.w (upd H1 d (.xd [(("reason" : Str), v)])) G' d (.xd [(("reason" : Str), v)]) :=
      ⟨_, hns.at (fun o q => (gk d M.dne).trans q), fun f => relO_ref rv f⟩
    have J : Inv X pins σ (upd H1 d (.xd [(("reason" : Str), v)])) ⟨G', g, dr, tk', os⟩ := I1.laid (t' := tk') old M.dbig ob
    refine ⟨e, oe, fv, ⟨G', g, dr, tk', os⟩, _, .ref C, some d, rfl, J, fun b o q => ?_, ge, hoe, ⟨hc, hd⟩, hdat, h1, ?_, rfl, I1.bare, raises_own T.exC T.tyC, q1 d (I1.hok.fresh M.dbig)⟩
    · by_cases hb : b = e
      · have q' : G'.get? b = some o := q
        rw [hb, ge] at q'; cases q'
      · exact (gk b hb).symm.trans q
    · rw [upd_ne (Ne.symm M.dne)]
      exact I1.hok.fresh M.new
/-- n.reason, n the exception that the suite holds (at a; its class cls, its dict d) -/
def tByRef (C : Addr) (a : Addr) (cls : Value) (d : Option Addr) (te : TE) : TE := fun σ H Q => te σ H fun x H1 => x = .ref a ∧ cls = .ref C ∧ ∃ (dd : Addr) (v : V), d = some dd ∧ H1 dd = some (.xd [(("reason" : Str), v)]) ∧ Q v H1
theorem pe_byRef {prog : Program} {a : Addr} {oe : Obj} {cls : Value} {d : Option Addr} {pn : List (Addr × Obj)} {e : Expr} {te : TE} {pos : Pos} (T : PySem.RefX.RefTxt prog X.K C fI) (hz : Zc cls d oe) (hf : ∃ vs, oe.data = .fields vs) (he : PE (X.suite a ((a, oe) :: pn)) e te)
    (hb : attributeBase e "reason" X.env (eval e X.env) = eval e X.env := by rfl) :
    PE (X.suite a ((a, oe) :: pn)) (.Attribute e "reason" pos) (tByRef C a cls d te) := by
  refine ⟨fun pins s σ H Q I h => ?_⟩
  refine attr_of hb (thn (he.run pins s σ H _ I h) fun u s1 hh => ?_)
  obtain ⟨x, H1, I1, rx, ex, ec, dd, v, ed, ea, q⟩ := hh
  subst ex
  obtain rfl : u = Value.ref a := rx
  subst ec
  subst ed
  obtain ⟨ha, _⟩ := I1.pin (a, oe) (List.mem_append_left _ List.mem_cons_self)
  obtain ⟨vs, hd⟩ := hf
  have hx : ObjOk X.prog X.w H1 s1.heap dd (.xd [(("reason" : Str), v)]) := I1.hok dd _ ea
  obtain ⟨mA, hns, hr⟩ := hx
  obtain ⟨od, ho, hl⟩ := lookIn_ns hns
  have l : List.lookup ("reason" : Str) [(("reason" : Str), v)] = some v := by simp [List.lookup]
  obtain ⟨u, hu, ru⟩ := RelO.some_of (v := v) (o := mA "reason") (by rw [← l]; exact hr "reason")
  have J : PySem.W.InstAt s1.heap a oe C (some od) := ⟨ha, hz.1, by unfold PySem.W.notCls; rw [hd] <;> rfl, by rw [hz.2]; exact ho⟩
  exact HandSPX.exc_get I1.kIn J T.ga T.gg T.exC (PySem.W.findObj_own T.hdC T.noN rfl (by rw [hl, hu])) (handed_of ru) ⟨v, H1, I1.tok _, ru, q⟩
end
end L2

set_option Elab.async false
set_option linter.all false
set_option maxRecDepth 100000
set_option maxHeartbeats 2000000
namespace L2
open PySem PySem.Spec PyProof.Rows
/-- the ends of a suite whose error stands in slot i (none: nowhere) -/
def dMix (i : Option Nat) (D : Ends) : Ends := match i with
  | none => D
  | some i => { nx := fun σ' H' => D.nx (σ'.set i none) H', rt := D.rt, bk := fun σ' H' => D.bk (σ'.set i none) H', ct := fun σ' H' => D.ct (σ'.set i none) H' }
def sMix (i : Option Nat) (a : Addr) (σ : St) : St := match i with
  | none => σ
  | some i => σ.set i (some (.ref a))
abbrev Cl := Value × Option Nat × (Addr → Value → Option Addr → TS)
def wMix (K : PySem.W.Frag) (Wout : WX) (D : Ends) : List Cl → WX
  | [] => Wout
  | (c, i, ts) :: r => fun cls d σ H => ∃ b, PySem.W.exmOne K cls c = some b ∧ (b = true → ∀ a, H a = none → ts a cls d (dMix i D) (sMix i a σ) H) ∧ (b = false → wMix K Wout D r cls d σ H)
inductive HdMix (X : Cx) : List ExceptHandler → List Cl → Prop
  | nil : HdMix X [] []
  | cons {x : Str} {on : Option Str} {c : Value} {i : Option Nat} {ts : Addr → Value → Option Addr → TS} {b₀ : Stmt} {suite : List Stmt} {np pos' : Pos} {hds : List ExceptHandler} {l : List Cl} (hc : Names X x c)
      (hon : match on, i with | none, none => True | some n, some i => X.N[i]? = some n ∧ X.env.kindOf n = some .local | _, _ => False)
      (hsu : ∀ (a : Addr) (oe : Obj) (cls : Value) (d : Option Addr) (pn : List (Addr × Obj)), Zc cls d oe → (∃ vs, oe.data = .fields vs) → PSs (X.suite a ((a, oe) :: pn)) (b₀ :: suite) (ts a cls d)) (r : HdMix X hds l) :
      HdMix X (.ExceptHandler (some (.Name x np)) on (b₀ :: suite) pos' :: hds) ((c, i, ts) :: l)
section
variable {X : Cx} {body : List Stmt} {h₀ : ExceptHandler} {hds : List ExceptHandler} {l : List Cl} {pos : Pos} {tb : WX → TS} {Wout : WX}
theorem ps_try_mix (hs : X.stack = X.env :: X.outer) (hf : X.env.frame = some X.env.locals) (hN : X.N.Nodup) (tk : Takes X Wout)
    (hb : ∀ (W : WX) (pn : List (Addr × Obj)) (xe : Value → Shared → Prop), Takes (X.tr pn xe) W → PassesOwn (model X.prog X.w) X.A X.env xe → PSs (X.tr pn xe) body (tb W))
    (hh : HdMix X (h₀ :: hds) l) : PS X (.Try body (h₀ :: hds) [] [] pos) (fun D σ H => tb (wMix X.K Wout D l) D σ H) := by
  refine ⟨fun pins s σ H D I h => ?_⟩
  have ok := I.ok
  have hfr : X.A.frames = some (X.env :: X.outer) := by rw [ok.frames, hs]
  refine wpAny_Try_except ?_
  refine wpAny_mono ((hb (wMix X.K Wout D l) (X.pn ++ pins) (fun e s₁ => wpAny (model X.prog X.w) X.A (noteFrame e X.env) (fun _ s₂ => wpAny (model X.prog X.w) X.A (setFlight e none) (fun _ s₃ =>
    wpAny (model X.prog X.w) X.A (handleBy e X.env (h₀ :: hds)) (SP X pins D) X.xe s₃) X.xe s₂) X.xe s₁) (fun u s' xx => ?_) PassesOwn.looking).run [] s σ H D (I.toTry _) h) (fun f s1 hsp => ?_) (fun e s1 he => he)
  · obtain ⟨a, B, sI, pins', σ', H', cls, d, rfl, J', nb, up, sky, na, os, ag, w⟩ := xx
    have J : Inv X pins σ' H' sI := J'.ofTry ok
    have sky' : Sky B (X.env :: X.outer) a (Zc cls d) X.env.locals s'.heap := by rw [← hs]; exact sky
    show wpAny (model X.prog X.w) X.A (noteFrame (.ref a) X.env) _ _ _
    refine Sky.land Zc.steady hfr hf sky' fun h3 fl3 up3 => ?_
    have J3 : Inv X pins σ' H' { s' with heap := h3 } := J.landed nb fl3.1 (up.trans up3) os ag
    obtain ⟨oe3, vs3, he3, hz3, hd3⟩ := fl3.there
    have notFr : ∀ {h : Heap} {o : Obj} {vs : Array Value}, h.FunFrames B (X.env :: X.outer) → h.get? a = some o → o.data = .fields vs → a ∉ frs (X.env :: X.outer) := fun {h o vs} ff e dd hm => by
      obtain ⟨_, o', e', hnf⟩ := ff.mem hm
      rw [e] at e'; cases e'
      exact hnf _ dd
    have nfr := notFr fl3.2.2.1 he3 hd3
    have nL : a ≠ X.env.locals := fun z => nfr (List.mem_filterMap.mpr ⟨X.env, List.mem_cons_self, by rw [hf, z]⟩)
    have nF : a ∉ X.fs := fun hm => by
      obtain ⟨e, he, q⟩ := List.mem_filterMap.mp hm
      exact nfr (List.mem_filterMap.mpr ⟨e, List.mem_cons_of_mem _ he, q⟩)
    have S3 := J3.suite he3 hd3 na nL nF
    have go : ∀ {hds' : List ExceptHandler} {l' : List Cl}, HdMix X hds' l' → wMix X.K Wout D l' cls d σ' H' →
        wpAny (model X.prog X.w) X.A (handleBy (.ref a) X.env hds') (SP X pins D) X.xe { s' with heap := h3 } := by
      intro hds' l' hk
      induction hk with
      | nil =>
        intro w
        refine wpAny_handleBy_nil ?_
        obtain ⟨k1, k2, k3, oe, vs, T, oT, ts', he, hz, hd, h1, hr⟩ := id fl3
        unfold PySem.passOn
        refine wpAny_bind (wpAny_field he hd h1 ?_)
        rw [if_neg (show ¬ ((Value.ref T == Value.none) = true) from by simp)]
        have fin : wpAny (model X.prog X.w) X.A (setFlight (.ref a) X.env.frame) (fun _ s4 => wpAny (model X.prog X.w) X.A (throw (.ref a) : Sem Flow) (SP X pins D) X.xe s4) X.xe { s' with heap := h3 } := by
          rw [hf]
          refine HandSPX.setFlight_upZ fl3 fun h4 hh4 up4 => wpAny_throw (tk _ _ ?_)
          exact ⟨a, B, sI, pins, σ', H', cls, d, rfl, J, nb, (up.trans up3).trans up4, .inr (.inr (by rw [hs]; exact hh4)), na, os, ag, w⟩
        first
          | exact wpAny_bind (wpAny_pure (wpAny_bind fin))
          | exact wpAny_bind fin
      | @cons x on c i ts b₀ suite np pos' hds2 l2 hc hon hsu r ih =>
        intro w
        obtain ⟨b, hb1, hyes, hno⟩ := w
        have LT : PySem.W.Looks (model X.prog X.w) h3 (typeOf (.ref a)) cls := fun A Q E s k q => wpAny_typeOf_ref (k _ _ he3) (by rw [hz3.1]; exact q)
        have LM := PySem.W.exm_one (M := model X.prog X.w) (J3.kIn) LT hb1
        have test : ∀ {Q : Value → Shared → Prop} {E : Value → Shared → Prop}, Q c { s' with heap := h3 } → wpAny (model X.prog X.w) (X.A.mark (some (.ref a))) (eval (.Name x np) X.env) Q E { s' with heap := h3 } := fun {Q E} q => by
          obtain ⟨hg, hdbg, hm | ⟨hm, hv, hnn⟩⟩ := hc
          · exact ld_glob (X := X.suite a ((a, oe3) :: (X.pn ++ pins))) S3 hg hm q hdbg
          · exact ld_blt (X := X.suite a ((a, oe3) :: (X.pn ++ pins))) S3 hg hm hv q hnn hdbg
        refine wpAny_handleBy_cons (codeAny_handlers_test ?_) (by intro q; cases q)
        refine test (LM.here ?_)
        cases b with
        | false =>
          show wpAny _ X.A (handleBy (.ref a) X.env hds2) _ _ _
          exact ih (hno rfl)
        | true =>
          cases on with
          | none =>
            cases i with
            | some i => exact hon.elim
            | none =>
              refine codeAny_handlers_suite ?_
              refine HandSPX.lands_againZ fl3 fun h4 fl4 up4 => ?_
              have J4 : Inv X pins σ' H' { s' with heap := h4 } := J.landed nb fl4.1 ((up.trans up3).trans up4) os ag
              obtain ⟨oe4, vs4, he4, hz4, hd4⟩ := fl4.there
              have S4 := J4.suite he4 hd4 na nL nF
              refine wpAny_mono ((hsu a oe4 cls d (X.pn ++ pins) hz4 ⟨_, hd4⟩).run [] _ _ H' _ S4 (hyes rfl a na)) (fun f s6 hsp => ?_) (fun _ _ z => False.elim z)
              cases f with
              | ret u =>
                obtain ⟨v6, σ6, H6, S6, r6, q6⟩ := hsp
                exact ⟨_, _, _, S6.unsuite ok, r6, q6⟩
              | _ =>
                obtain ⟨σ6, H6, S6, q6⟩ := hsp
                exact ⟨_, _, S6.unsuite ok, q6⟩
          | some n =>
            cases i with
            | none => exact hon.elim
            | some i =>
              obtain ⟨hi, hln⟩ := hon
              have hloc : Loc X.env.scope n := .inl hln
              refine codeAny_handlers_suite_as ?_
              refine HandSPX.lands_againZ fl3 fun h4 fl4 up4 => ?_
              have J4 : Inv X pins σ' H' { s' with heap := h4 } := J.landed nb fl4.1 ((up.trans up3).trans up4) os ag
              obtain ⟨oe4, vs4, he4, hz4, hd4⟩ := fl4.there
              have S4 := J4.suite he4 hd4 na nL nF
              refine store_ok (X := X.suite a ((a, oe4) :: (X.pn ++ pins))) (v := .ref a) S4 hN hi hloc rfl (fun s5 S5 => ?_) (.inr hln)
              refine wpAny_mono ((hsu a oe4 cls d (X.pn ++ pins) hz4 ⟨_, hd4⟩).run [] s5 _ H' _ S5 (hyes rfl a na)) (fun f s6 hsp => ?_) (fun _ _ z => False.elim z)
              have end_ : ∀ {σ6 : St} {H6 : Hp} {Q : Shared → Prop}, Inv (X.suite a ((a, oe4) :: (X.pn ++ pins))) [] σ6 H6 s6 → (∀ s7, Inv X pins (σ6.set i none) H6 s7 → Q s7) →
                  wpAny (model X.prog X.w) X.A (do bindName X.env n .none; unbindBehindTheSuite X.env n pos') (fun _ s7 => Q s7) X.xe s6 := fun {σ6 H6 Q} S6 hq => gone_ok (S6.unsuite ok) hN hi hln hq
              cases f with
              | ret u =>
                obtain ⟨v6, σ6, H6, S6, r6, q6⟩ := hsp
                exact end_ S6 fun s7 J7 => ⟨_, _, _, J7, r6, q6⟩
              | _ =>
                obtain ⟨σ6, H6, S6, q6⟩ := hsp
                exact end_ S6 fun s7 J7 => ⟨_, _, J7, q6⟩
    exact go hh w
  · cases f with
    | next =>
      obtain ⟨σ', H', J', q⟩ := hsp
      exact wpAny_execs_nil ⟨σ', H', J'.ofTry ok, q⟩
    | ret u =>
      obtain ⟨v, σ', H', J', r, q⟩ := hsp
      exact ⟨v, σ', H', J'.ofTry ok, r, q⟩
    | _ =>
      obtain ⟨σ', H', J', q⟩ := hsp
      exact ⟨σ', H', J'.ofTry ok, q⟩
end
end L2

set_option Elab.async false
set_option linter.all false
set_option maxRecDepth 100000
set_option maxHeartbeats 4000000
/-! isinstance(e, C), e a caught error that may have a dict of its own -/
namespace PySem.W
open PySem PySem.Spec PySem.Calls PyProof.Rows
section
variable {prog : Program} {w : World} {A : Around} {E : Value → Shared → Prop} {s : Shared} {K : Frag} {x D : Addr} {ox : Obj} {od : Option Obj}
theorem px_found {C : Addr} {name : Str} {a g : Value} (hc : (clsIn K C).isSome = true) (ha : findIn K (.ref C) name = some (some a)) (hg : specialIn K a "__get__" = some (some g)) (ht : takesIn K a = some true) : findObj K C od name = some (.bind g a) := by
  obtain ⟨cd, hc⟩ := Option.isSome_iff_exists.mp hc
  unfold findObj
  rw [hc, Option.bind_some, ha, Option.bind_some]
  simp [hg, ht]
theorem px_class {Q : Option Value → Shared → Prop} (C : L2.ExcC K D) (X : K.In s.heap) (I : InstAt s.heap x ox D od) (h : Q (some (.ref D)) { s with toks := s.toks + 1 }) : wpAny (model prog w) A (getAttr? (.ref x) "__class__") Q E s := by
  have hf : findObj K D od "__class__" = some (.bind (.builtin "getset_descriptor.__get__") (.builtin "object.__class__")) := px_found (by obtain ⟨cd, hc, _⟩ := any_some C.hd; rw [hc]; rfl) C.ha C.hn C.ht
  obtain ⟨hp, g, d, t, os⟩ := s
  have L0 := I.type (M := model prog w)
  have L1 := looks_findIn (M := model prog w) X C.hg
  have L2 := looks_findIn (M := model prog w) X C.hk
  have L3 := looks_find (M := model prog w) X I hf
  have sub : Looks (model prog w) hp (isInstance (.ref x) (.type "BaseException")) true := L0.andThen (looks_subIn X C.hs)
  have hx2 : (Value.builtin "BaseException.__getattribute__" == Value.builtin "object.__getattribute__") = false := by decide +kernel
  have hx1 : (onTheHeap (Value.ref D) && Value.builtin "BaseException.__getattribute__" == Value.builtin "object.__getattribute__") = false := by rw [hx2]; rfl
  unfold getAttr? getAttrBy? getAttrBy
  refine wpAny_bind (wpAny_mkText (wpAny_bind (wpAny_attempt (wpAny_holding (wpAny_bind (L0.at (wpAny_bind (L1.at ?_))))))))
  show wpAny _ _ (if (onTheHeap (Value.ref D) && Value.builtin "BaseException.__getattribute__" == Value.builtin "object.__getattribute__") = true then _ else _) _ _ _
  rw [hx1, if_neg Bool.false_ne_true]
  unfold getAttrByItsOwn hookBefore
  refine wpAny_bind ?_
  rw [if_pos (show onTheHeap (Value.ref D) = true from rfl)]
  refine L2.at ?_
  refine wpAny_bind (wpAny_attempt (wpAny_holding ?_))
  unfold callGetattribute
  rw [if_neg (show ¬ ((false && onTheHeap (Value.builtin "BaseException.__getattribute__")) = true) from Bool.false_ne_true)]
  unfold boundAndCalled
  rw [PySem.F.excAttr_ValueError.ga.bind (.ref x)]
  refine wpAny_bind (wpAny_pure ?_)
  show wpAny _ _ (call (.builtin "BaseException.__getattribute__") [.ref x, .str "__class__" t]) _ _ _
  refine wpAny_call (codeAny_call_builtin PySem.F.excAttr_ValueError.ga.plain PySem.F.entry_bexc_ga ?_)
  refine @check_slot (model prog w) _ _ ⟨hp, g, d, t + 1, os⟩ "BaseException.__getattribute__" "BaseException" "__getattribute__" (.ref x) [.str "__class__" t] [] _ (by decide +kernel) (by decide +kernel) sub (PySem.F.args_bexc_ga (.ref x) (.str "__class__" t)) ?_
  unfold Builtin.«object.__getattribute__»
  refine wpAny_bind (wpAny_of_eq (a := ((Value.ref x : Value), [Value.str "__class__" t])) (by first | rfl | (simp only [slotArgs]; rfl)) ?_)
  refine wpAny_bind (wpAny_pure (wpAny_bind (L0.at (wpAny_bind (L3.at ?_)))))
  show wpAny _ _ (holding [Value.builtin "object.__class__"] (call (.builtin "getset_descriptor.__get__") [.builtin "object.__class__", .ref x, .ref D]) >>= ret) _ _ _
  refine wpAny_bind (wpAny_holding (wpAny_call (class_get (s := ⟨hp, g, d, t + 1, os⟩) (ox := ox) (od := od) X I C.hm ?_)))
  refine wpAny_pure ?_
  show wpAny _ _ (handedOut (.ref D)) _ _ _
  rw [handedOut_of (v := .ref D) rfl]
  first
    | exact wpAny_pure (wpAny_pure h)
    | exact wpAny_pure h
    | exact wpAny_pure (wpAny_bind (wpAny_pure (wpAny_pure h)))
theorem px_kit (C : L2.ExcC K D) : KitX K (.ref x) (.ref D) (fun h => InstAt h x ox D od) where
  ty := fun _ _ _ I => I.type
  it := fun _ _ X _ => by
    obtain ⟨cdD, hcD, _⟩ := any_some C.hd
    unfold clsIn at hcD
    split at hcD
    · rename_i c' d' cd' sl' ho
      intro A' Q' E' s' k q
      unfold isType loadHead
      exact wpAny_bind (wpAny_loadPart (k _ _ (X _ _ ho)) (wpAny_pure q))
    · cases hcD
  ne := fun h tp dd its n sl X htp => by
    obtain ⟨cdD, hcD, _⟩ := any_some C.hd
    refine Bool.eq_false_iff.mpr fun q => ?_
    have e : D = tp := Value.ref.inj (beq_iff_eq.mp q)
    subst e
    unfold clsIn at hcD
    split at hcD
    · rename_i c' d' cd' sl' ho
      have z := (X _ _ ho).symm.trans htp
      cases z
    · cases hcD
  ca := fun X I k => px_class C X I k
end
end PySem.W
namespace L2
open PySem PySem.Spec PyProof.Rows
/-- what the heap says of an error's dict -/
def DOk (H : Hp) (d : Option Addr) : Prop := d = none ∨ ∃ dd fs, d = some dd ∧ H dd = some (.xd fs)
def rIsX (K : PySem.W.Frag) (D a : Addr) (d : Option Addr) : List V → Hp → VK → Prop := fun xs H Q => ∃ (c : V) (cv : Value) (b : Bool), xs = [.ref a, c] ∧ (∀ u, RelV c u → u = cv) ∧ PySem.W.kitOne K (.ref D) cv = some b ∧ DOk H d ∧ Q (.bl b) H
theorem call_isX {X : Cx} {a D : Addr} {d : Option Addr} {oe : Obj} {pn : List (Addr × Obj)} (C : ExcC X.K D) (hz : Zc (.ref D) d oe) (hf : ∃ vs, oe.data = .fields vs) : CallR (X.suite a ((a, oe) :: pn)) (.builtin "isinstance") (rIsX X.K D a d) := by
  intro pins s σ H xs us Q I r h
  obtain ⟨c, cv, b, rfl, hcv, e, dk, q⟩ := h
  cases r with
  | cons rx rr =>
    cases rr with
    | cons rt rr =>
      cases rr
      cases rx
      have ec := hcv _ rt
      subst ec
      obtain ⟨hget, _⟩ := I.pin (a, oe) (List.mem_append.mpr (.inl List.mem_cons_self))
      obtain ⟨vs, hv⟩ := hf
      have J : ∃ od, PySem.W.InstAt s.heap a oe D od := by
        obtain ⟨oc, od, oda, osl⟩ := oe
        obtain ⟨h1, h2⟩ := hz
        dsimp only at h1 h2 hv
        subst h1 h2 hv
        rcases dk with rfl | ⟨dd, fs, rfl, hd⟩
        · exact ⟨none, hget, rfl, rfl, trivial⟩
        · have hx : ObjOk X.prog X.w H s.heap dd (.xd fs) := I.hok dd _ hd
          obtain ⟨mA, hns, _⟩ := hx
          obtain ⟨o, _, _, ho, _⟩ := hns
          exact ⟨some o, hget, rfl, rfl, ho⟩
      obtain ⟨od, J⟩ := J
      exact PySem.W.kia_one (PySem.W.px_kit C) I.kIn J e (fun z => nomatch z) fun tk => ⟨.bl b, H, I.kept (t' := tk) fun _ _ z => z, rfl, q⟩
end L2

set_option Elab.async false
set_option linter.all false
set_option maxRecDepth 100000
set_option maxHeartbeats 4000000
/-! a tuple once over -/
namespace Py
open PySem PySem.Spec PyProof.Rows L2
theorem tup_once (l : Addr) (items : Array Value) (n : Nat) (u : Tok) (hne : items.isEmpty = false) :
    Meets (Builtin.«tuple.__mul__» ⟨[.ref l, .int 1 u], []⟩) (fun _ R s => (∃ dd sl, s.heap.get? l = some { cls := .type "tuple", dict := dd, data := .seq items n, slots := sl }) ∧ R (.ok (.ret (.ref l))) s) := by
  refine .of_wp fun prog w A R s h => ?_
  obtain ⟨hp, g, d, tk, os⟩ := s
  obtain ⟨⟨dd, sl, hl⟩, h⟩ := h
  have f1 := AutoSeq1.idx_int
  wp_walk using wpAny_loadPart' hl
  exact ⟨_, rfl, h⟩
def rOnce (K : PySem.W.Frag) : R2 := fun x y H Q => ∃ l xs, x = .ref l ∧ y = .int 1 ∧ SqT K H l xs ∧ xs ≠ [] ∧ Q (.ref l) H
theorem op_once {X : Cx} : OpR X (binaryOp .Mult) (rOnce X.K) := by
  intro pins s σ H x y v u Q I rx ry h
  obtain ⟨l, xs, rfl, rfl, hT, hne, q⟩ := h
  cases rx
  obtain ⟨t, rfl⟩ := ry
  obtain ⟨its, r, ⟨⟨cls, dd, data, sl⟩, ho, hc, n, hd⟩, hs⟩ := I.tuple hT
  simp only at hc hd
  subst hc hd
  have hi : its.toArray.isEmpty = false := by
    cases its with
    | nil =>
      have hle := r.length
      exact absurd (List.eq_nil_of_length_eq_zero hle) hne
    | cons a b => rfl
  have ht : s.TypeIs (.ref l) "tuple" := ⟨_, ho, rfl⟩
  have back := call_meets (prog := X.prog) (w := X.w) (A := X.A) (E := X.xe) F.slot_tuple_mul ht F.entry_tuple_mul (F.args_tuple_mul_2 _ _) (tup_once l its.toArray n t hi)
    (Q := EP X pins σ Q) ⟨⟨dd, sl, ho⟩, .ref l, H, I, rfl, q⟩
  have rev := call_meets (prog := X.prog) (w := X.w) (A := X.A) (E := X.xe) (s := s) F.slot_int_rmul (typeIs_int s 1 t) F.entry_int_rmul (F.args_int_rmul_2 _ _) (int_rmul_tuple 1 t l its.toArray n dd sl)
    (Q := fun v s' => v = Value.notImplemented ∧ s'.TypeIs (.ref l) "tuple" ∧ wpAny (model X.prog X.w) X.A (call (.builtin "tuple.__mul__") [.ref l, .int 1 t]) (EP X pins σ Q) X.xe s') ⟨ho, rfl, ht, back⟩
  exact wpAny_binaryOp_repeat_ref (by decide) ht (fun s' => typeIs_int s' 1 t) noFill_tuple_mul F.fills_int_mul F.slot_int_rmul repeat_tuple F.slot_int_index.lookup rev
end Py

set_option Elab.async false
set_option linter.all false
set_option maxRecDepth 100000
set_option maxHeartbeats 1000000
namespace Py
open PySem PySem.Spec PyProof.Rows L2

/-! ### wishes about runs -/
def Wp {α : Type} (m : M α) (s : DS) (Q : α → DS → Prop) (E : Exc → DS → Prop) : Prop := match m s with
  | .ok a s' => Q a s'
  | .exc x s' => E x s'
  | .fail => False
theorem Wp.bind_iff {α β : Type} {m : M α} {k : α → M β} {s : DS} {Q : β → DS → Prop} {E : Exc → DS → Prop} :
    Wp (m >>= k) s Q E ↔ Wp m s (fun a s' => Wp (k a) s' Q E) E := by
  show Wp (M.bind m k) s Q E ↔ _
  unfold Wp M.bind
  cases m s <;> exact Iff.rfl
theorem Wp.of_bind {α β : Type} {m : M α} {k : α → M β} {s : DS} {Q : β → DS → Prop} {E : Exc → DS → Prop} (h : Wp (m >>= k) s Q E) : Wp m s (fun a s' => Wp (k a) s' Q E) E := Wp.bind_iff.mp h
theorem Wp.mono {α : Type} {m : M α} {s : DS} {Q Q' : α → DS → Prop} {E E' : Exc → DS → Prop} (h : Wp m s Q E) (hq : ∀ a s', Q a s' → Q' a s') (he : ∀ x s', E x s' → E' x s') : Wp m s Q' E' := by
  unfold Wp at h ⊢
  cases e : m s with
  | ok a s' => rw [e] at h; exact hq _ _ h
  | exc x s' => rw [e] at h; exact he _ _ h
  | fail => rw [e] at h; exact h
theorem Wp.of_pure {α : Type} {a : α} {s : DS} {Q : α → DS → Prop} {E : Exc → DS → Prop} (h : Wp (pure a : M α) s Q E) : Q a s := h
theorem Wp.of_fail {α : Type} {s : DS} {Q : α → DS → Prop} {E : Exc → DS → Prop} (h : Wp (fail : M α) s Q E) : False := h
theorem Wp.of_ite {α : Type} {c : Prop} [Decidable c] {m n : M α} {s : DS} {Q : α → DS → Prop} {E : Exc → DS → Prop} (h : Wp (if c then m else n) s Q E) : (c ∧ Wp m s Q E) ∨ (¬ c ∧ Wp n s Q E) := by
  by_cases hc : c
  · rw [if_pos hc] at h; exact .inl ⟨hc, h⟩
  · rw [if_neg hc] at h; exact .inr ⟨hc, h⟩
/-- it is there, or it fails -/
theorem Wp.of_guard {α : Type} {c : Prop} [Decidable c] {m : M α} {s : DS} {Q : α → DS → Prop} {E : Exc → DS → Prop} (h : Wp (if c then m else fail) s Q E) : c ∧ Wp m s Q E := by
  rcases Wp.of_ite h with h | ⟨_, h⟩
  · exact h
  · exact h.of_fail.elim

/-! ### data in the heap -/
structure Wd where
  P : Program
  w : World
  K : PySem.W.Frag
  mg : Str → Option Value
  base : Heap
  cap : Addr
  cell : Addr
abbrev Ow := Addr → Option Nat
section
variable (U : Wd)
def Nd (ow : Ow) (H : Hp) (a : Addr) (o : HO) : Prop := H a = some o ∧ ow a = none ∧ a ≠ U.cap
def KT (a : Addr) (xs : List V) : Prop := ∃ (o : Obj) (its : Array Value) (n : Nat), U.K.lookup a = some o ∧ o.cls = .type "tuple" ∧ o.data = .seq its n ∧ its.size ≤ sizeLine ∧ Vals xs its.toList
/-- a written dict of the top, its keys texts -/
def KDs (a : Addr) (xs : List (Key × V)) : Prop := (∃ es n, KDict U.K U.w a es n) ∧ (∀ z : Str, ∃ r, PySem.W.nsIn U.K a z = some r ∧ RelO (valV xs (.inr z)) r) ∧ ∀ p ∈ xs, ∃ z : Str, p.1 = .inr z
mutual
/-- v is the datum d; what may change is not within -/
def Rp (ow : Ow) (H : Hp) : D → V → Prop
  | .none, v => v = .non
  | .bool b, v => v = .bl b
  | .int i, v => v = .int i
  | .str x, v => v = .str x
  | .list ds, v => ∃ a xs, v = .ref a ∧ Nd U ow H a (.lst xs) ∧ RpL ow H ds xs
  | .tuple ds, v => ∃ a xs, v = .ref a ∧ (Nd U ow H a (.tup xs) ∨ KT U a xs) ∧ RpL ow H ds xs
  | .dict kvs, v => (kvs = [(.none, .none)] ∧ v = .ref U.cap) ∨ ∃ a xs, v = .ref a ∧ (Nd U ow H a (.dK xs) ∨ KDs U a xs) ∧ RpD ow H kvs xs
def RpD (ow : Ow) (H : Hp) : List (D × D) → List (Key × V) → Prop
  | [], xs => xs = []
  | p :: r, xs => ∃ kk x ys, xs = (kk, x) :: ys ∧ keyD p.1 = some kk ∧ Rp ow H p.2 x ∧ RpD ow H r ys
def RpL (ow : Ow) (H : Hp) : List D → List V → Prop
  | [], xs => xs = []
  | d :: ds, xs => ∃ x ys, xs = x :: ys ∧ Rp ow H d x ∧ RpL ow H ds ys
end
/-- all but the drawing row stands as before -/
def Ext (H H' : Hp) : Prop := ∀ a u, a ≠ U.cap → H a = some u → H' a = some u
/-- what is shared stands as before -/
def Keep (ow ow' : Ow) (H H' : Hp) : Prop := ∀ a u, a ≠ U.cap → ow a = none → H a = some u → H' a = some u ∧ ow' a = none
structure Cap (H : Hp) (s : DS) : Prop where
  row : H U.cap = some (.lst [.ref U.cell, .int s.at_, .int s.cur, .int s.seed])
  cells : H U.cell = some (.lst (s.cells.map V.int))
  ne : U.cell ≠ U.cap
/-- what stands at the address of a list, of a dict -/
def Sh (ow : Ow) (H : Hp) (d : D) (u : HO) : Prop := (∃ ds xs, d = .list ds ∧ u = .lst xs ∧ RpL U ow H ds xs) ∨ ∃ kvs xs, d = .dict kvs ∧ u = .dK xs ∧ RpD U ow H kvs xs
/-- a list, a dict that a place owns -/
def Own (i : Nat) (ow : Ow) (H : Hp) (d : D) (v : V) : Prop := ∃ a u, v = .ref a ∧ H a = some u ∧ ow a = some i ∧ a ≠ U.cap ∧ Sh U ow H d u
/-- may be read as d -/
def Pk (ow : Ow) (H : Hp) (d : D) (v : V) : Prop := Rp U ow H d v ∨ ∃ i, Own U i ow H d v
/-- a list made anew: at H' it is there, at H it was not -/
def RF (ow : Ow) (H H' : Hp) (d : D) (v : V) : Prop := ∃ a u, v = .ref a ∧ H a = none ∧ H' a = some u ∧ a ≠ U.cap ∧ ∀ i, Sh U (fun b => if b = a then some i else ow b) H' d u
end
section
variable {U : Wd} {ow ow' : Ow} {H H' H'' : Hp}
theorem Ext.refl : Ext U H H := fun _ _ _ h => h
theorem Ext.trans (a : Ext U H H') (b : Ext U H' H'') : Ext U H H'' := fun x u h e => b x u h (a x u h e)
theorem Ext.new {p : Addr} {o : HO} (h : H p = none) : Ext U H (upd H p o) := fun a u _ e => by rw [upd_ne (ne_of_none e h)]; exact e
theorem Ext.keep (h : Ext U H H') : Keep U ow ow H H' := fun a u hc ho e => ⟨h a u hc e, ho⟩
theorem Nd.mono {a : Addr} {o : HO} (h : Nd U ow H a o) (k : Keep U ow ow' H H') : Nd U ow' H' a o := by
  obtain ⟨r, ho, hc⟩ := h
  obtain ⟨e, ho'⟩ := k a _ hc ho r
  exact ⟨e, ho', hc⟩
mutual
theorem Rp.mono (k : Keep U ow ow' H H') : ∀ (d : D) (v : V), Rp U ow H d v → Rp U ow' H' d v
  | .none, _, h => by unfold Rp at h ⊢; exact h
  | .bool _, _, h => by unfold Rp at h ⊢; exact h
  | .int _, _, h => by unfold Rp at h ⊢; exact h
  | .str _, _, h => by unfold Rp at h ⊢; exact h
  | .list ds, _, h => by
    unfold Rp at h ⊢
    obtain ⟨a, xs, e, n, r⟩ := h
    exact ⟨a, xs, e, n.mono k, RpL.mono k ds xs r⟩
  | .tuple ds, _, h => by
    unfold Rp at h ⊢
    obtain ⟨a, xs, e, n, r⟩ := h
    exact ⟨a, xs, e, n.imp (fun n => n.mono k) id, RpL.mono k ds xs r⟩
  | .dict kvs, _, h => by
    unfold Rp at h ⊢
    rcases h with h | ⟨a, xs, e, n, r⟩
    · exact .inl h
    · exact .inr ⟨a, xs, e, n.imp (fun n => n.mono k) id, RpD.mono k kvs xs r⟩
theorem RpD.mono (k : Keep U ow ow' H H') : ∀ (ds : List (D × D)) (xs : List (Key × V)), RpD U ow H ds xs → RpD U ow' H' ds xs
  | [], _, h => by unfold RpD at h ⊢; exact h
  | p :: ds, _, h => by
    unfold RpD at h ⊢
    obtain ⟨kk, x, ys, e, hk, r, rs⟩ := h
    exact ⟨kk, x, ys, e, hk, Rp.mono k p.2 x r, RpD.mono k ds ys rs⟩
theorem RpL.mono (k : Keep U ow ow' H H') : ∀ (ds : List D) (xs : List V), RpL U ow H ds xs → RpL U ow' H' ds xs
  | [], _, h => by unfold RpL at h ⊢; exact h
  | d :: ds, _, h => by
    unfold RpL at h ⊢
    obtain ⟨x, ys, e, r, rs⟩ := h
    exact ⟨x, ys, e, Rp.mono k d x r, RpL.mono k ds ys rs⟩
end
theorem Rp.ext {d : D} {v : V} (h : Rp U ow H d v) (e : Ext U H H') : Rp U ow H' d v := Rp.mono e.keep d v h
theorem RpL.ext {ds : List D} {xs : List V} (h : RpL U ow H ds xs) (e : Ext U H H') : RpL U ow H' ds xs := RpL.mono e.keep ds xs h
theorem Sh.mono {d : D} {u : HO} (k : Keep U ow ow' H H') (h : Sh U ow H d u) : Sh U ow' H' d u := by
  rcases h with ⟨ds, xs, e1, e2, r⟩ | ⟨ds, xs, e1, e2, r⟩
  · exact .inl ⟨ds, xs, e1, e2, RpL.mono k ds xs r⟩
  · exact .inr ⟨ds, xs, e1, e2, RpD.mono k ds xs r⟩
theorem Sh.ext {d : D} {u : HO} (h : Sh U ow H d u) (e : Ext U H H') : Sh U ow H' d u := Sh.mono e.keep h
theorem Sh.notTup {d : D} {u : HO} (h : Sh U ow H d u) : ∀ xs, u ≠ .tup xs := by
  rcases h with ⟨ds, xs, e1, e2, r⟩ | ⟨ds, xs, e1, e2, r⟩ <;> subst e2 <;> exact fun _ z => nomatch z
theorem Sh.list {ds : List D} {u : HO} (h : Sh U ow H (.list ds) u) : ∃ xs, u = .lst xs ∧ RpL U ow H ds xs := by
  rcases h with ⟨ds, xs, e1, e2, r⟩ | ⟨ds, xs, e1, e2, r⟩
  · cases e1; exact ⟨xs, e2, r⟩
  · cases e1
theorem Sh.dict {ds : List (D × D)} {u : HO} (h : Sh U ow H (.dict ds) u) : ∃ xs, u = .dK xs ∧ RpD U ow H ds xs := by
  rcases h with ⟨ds, xs, e1, e2, r⟩ | ⟨ds, xs, e1, e2, r⟩
  · cases e1
  · cases e1; exact ⟨xs, e2, r⟩
theorem Own.ext {i : Nat} {d : D} {v : V} (h : Own U i ow H d v) (e : Ext U H H') : Own U i ow H' d v := by
  obtain ⟨a, u, e2, h1, h2, h3, r⟩ := h
  exact ⟨a, u, e2, e a _ h3 h1, h2, h3, r.ext e⟩
/-- no owner: neither list nor dict -/
def soft : D → Bool
  | .list _ => true
  | .dict _ => true
  | _ => false
theorem Own.soft {i : Nat} {d : D} {v : V} (h : Own U i ow H d v) : soft d = true := by
  obtain ⟨a, u, e2, h1, h2, h3, r⟩ := h
  rcases r with ⟨ds, xs, e1, e2, r⟩ | ⟨ds, xs, e1, e2, r⟩ <;> subst e1 <;> rfl
theorem Pk.ext {d : D} {v : V} (h : Pk U ow H d v) (e : Ext U H H') : Pk U ow H' d v := h.imp (fun h => h.ext e) fun ⟨i, h⟩ => ⟨i, h.ext e⟩
theorem RpL.length : ∀ {ds : List D} {xs : List V}, RpL U ow H ds xs → ds.length = xs.length
  | [], _, h => by unfold RpL at h; rw [h]; rfl
  | d :: ds, _, h => by
    unfold RpL at h
    obtain ⟨x, ys, e, r, rs⟩ := h
    rw [e, List.length_cons, List.length_cons, RpL.length rs]
theorem RpL.get : ∀ {ds : List D} {xs : List V} {i : Nat} {d : D}, RpL U ow H ds xs → ds[i]? = some d → ∃ x, xs[i]? = some x ∧ Rp U ow H d x
  | [], _, i, d, _, e => by simp at e
  | d' :: ds, _, 0, d, h, e => by
    unfold RpL at h
    obtain ⟨x, ys, e', r, rs⟩ := h
    subst e'
    simp at e; subst e
    exact ⟨x, rfl, r⟩
  | d' :: ds, _, i + 1, d, h, e => by
    unfold RpL at h
    obtain ⟨x, ys, e', r, rs⟩ := h
    subst e'
    simp at e
    obtain ⟨y, h1, h2⟩ := RpL.get rs e
    exact ⟨y, by simpa using h1, h2⟩
theorem RpL.nil : RpL U ow H [] [] := by unfold RpL; rfl
theorem RpL.cons {d : D} {ds : List D} {x : V} {xs : List V} (h : Rp U ow H d x) (r : RpL U ow H ds xs) : RpL U ow H (d :: ds) (x :: xs) := by unfold RpL; exact ⟨x, xs, rfl, h, r⟩
theorem RpL.of_cons {d : D} {ds : List D} {x : V} {xs : List V} (h : RpL U ow H (d :: ds) (x :: xs)) : Rp U ow H d x ∧ RpL U ow H ds xs := by
  unfold RpL at h
  obtain ⟨y, ys, e, r, rs⟩ := h
  cases e
  exact ⟨r, rs⟩
theorem RpL.append : ∀ {ds es : List D} {xs ys : List V}, RpL U ow H ds xs → RpL U ow H es ys → RpL U ow H (ds ++ es) (xs ++ ys)
  | [], es, xs, ys, h, r => by unfold RpL at h; subst h; exact r
  | d :: ds, es, xs, ys, h, r => by
    unfold RpL at h
    obtain ⟨x, zs, e, h1, h2⟩ := h
    subst e
    exact RpL.cons h1 (RpL.append h2 r)
theorem RpL.take : ∀ {ds : List D} {xs : List V} (n : Nat), RpL U ow H ds xs → RpL U ow H (ds.take n) (xs.take n)
  | _, _, 0, _ => RpL.nil
  | [], _, n + 1, h => by unfold RpL at h; subst h; exact RpL.nil
  | d :: ds, _, n + 1, h => by
    unfold RpL at h
    obtain ⟨x, zs, e, h1, h2⟩ := h
    subst e
    exact RpL.cons h1 (RpL.take n h2)
theorem RpL.drop : ∀ {ds : List D} {xs : List V} (n : Nat), RpL U ow H ds xs → RpL U ow H (ds.drop n) (xs.drop n)
  | _, _, 0, h => h
  | [], _, n + 1, h => by unfold RpL at h; subst h; exact RpL.nil
  | d :: ds, _, n + 1, h => by
    unfold RpL at h
    obtain ⟨x, zs, e, h1, h2⟩ := h
    subst e
    exact RpL.drop n h2
theorem RpL.set : ∀ {ds : List D} {xs : List V} {d : D} {x : V} (n : Nat), RpL U ow H ds xs → Rp U ow H d x → RpL U ow H (ds.set n d) (xs.set n x)
  | [], _, d, x, n, h, _ => by unfold RpL at h; subst h; exact RpL.nil
  | _ :: ds, _, d, x, 0, h, r => by
    unfold RpL at h
    obtain ⟨y, zs, e, h1, h2⟩ := h
    subst e
    exact RpL.cons r h2
  | _ :: ds, _, d, x, n + 1, h, r => by
    unfold RpL at h
    obtain ⟨y, zs, e, h1, h2⟩ := h
    subst e
    exact RpL.cons h1 (RpL.set n h2 r)
theorem RpL.eraseIdx : ∀ {ds : List D} {xs : List V} (n : Nat), RpL U ow H ds xs → RpL U ow H (ds.eraseIdx n) (xs.eraseIdx n)
  | [], _, n, h => by unfold RpL at h; subst h; exact RpL.nil
  | _ :: ds, _, 0, h => by
    unfold RpL at h
    obtain ⟨y, zs, e, h1, h2⟩ := h
    subst e
    exact h2
  | _ :: ds, _, n + 1, h => by
    unfold RpL at h
    obtain ⟨y, zs, e, h1, h2⟩ := h
    subst e
    exact RpL.cons h1 (RpL.eraseIdx n h2)
theorem RpL.dropLast {ds : List D} {xs : List V} (h : RpL U ow H ds xs) : RpL U ow H ds.dropLast xs.dropLast := by
  rw [List.dropLast_eq_take, List.dropLast_eq_take, h.length]
  exact h.take _
theorem RpL.rep {ds : List D} {xs : List V} (h : RpL U ow H ds xs) : ∀ n : Nat, RpL U ow H (List.replicate n ds).flatten (List.replicate n xs).flatten
  | 0 => RpL.nil
  | n + 1 => by
    rw [List.replicate_succ, List.replicate_succ, List.flatten_cons, List.flatten_cons]
    exact h.append (RpL.rep h n)
theorem KT.seq {a : Addr} {xs : List V} (h : KT U a xs) : SqT U.K H a xs := .inr h
/-! pairs -/
theorem RpD.ext {ds : List (D × D)} {xs : List (Key × V)} (h : RpD U ow H ds xs) (e : Ext U H H') : RpD U ow H' ds xs := RpD.mono e.keep ds xs h
theorem RpD.length : ∀ {ds : List (D × D)} {xs : List (Key × V)}, RpD U ow H ds xs → ds.length = xs.length
  | [], _, h => by unfold RpD at h; rw [h]; rfl
  | p :: ds, _, h => by
    unfold RpD at h
    obtain ⟨kk, x, ys, e, _, r, rs⟩ := h
    rw [e, List.length_cons, List.length_cons, RpD.length rs]
theorem RpD.hit : ∀ {ds : List (D × D)} {xs : List (Key × V)} {k : Key} {d : D}, RpD U ow H ds xs → dAt k ds = some d → ∃ x, valV xs k = some x ∧ Rp U ow H d x
  | [], _, _, _, _, e => by cases e
  | p :: ds, _, k, d, h, e => by
    unfold RpD at h
    obtain ⟨kk, x, ys, e', hk, r, rs⟩ := h
    subst e'
    unfold dAt at e
    rw [hk] at e
    by_cases hkk : kk = k
    · rw [if_pos (by rw [hkk])] at e
      cases e
      exact ⟨x, valV_pos hkk, r⟩
    · rw [if_neg (fun z => hkk (Option.some.inj z))] at e
      obtain ⟨y, h1, h2⟩ := RpD.hit rs e
      exact ⟨y, by rw [valV_neg hkk]; exact h1, h2⟩
theorem RpD.miss : ∀ {ds : List (D × D)} {xs : List (Key × V)} {k : Key}, RpD U ow H ds xs → dAt k ds = none → valV xs k = none
  | [], _, _, h, _ => by unfold RpD at h; subst h; rfl
  | p :: ds, _, k, h, e => by
    unfold RpD at h
    obtain ⟨kk, x, ys, e', hk, r, rs⟩ := h
    subst e'
    unfold dAt at e
    rw [hk] at e
    by_cases hkk : kk = k
    · rw [if_pos (by rw [hkk])] at e
      cases e
    · rw [if_neg (fun z => hkk (Option.some.inj z))] at e
      rw [valV_neg hkk]; exact RpD.miss rs e
theorem RpD.isSome {ds : List (D × D)} {xs : List (Key × V)} (k : Key) (h : RpD U ow H ds xs) : (dAt k ds).isSome = (valV xs k).isSome := by
  cases e : dAt k ds with
  | none => rw [h.miss e]; rfl
  | some d => obtain ⟨x, h1, _⟩ := h.hit e; rw [h1]; rfl
theorem RpD.ok : ∀ {ds : List (D × D)} {xs : List (Key × V)}, RpD U ow H ds xs → dOk ds = true
  | [], _, _ => rfl
  | p :: ds, _, h => by
    unfold RpD at h
    obtain ⟨kk, x, ys, e', hk, r, rs⟩ := h
    have := RpD.ok rs
    unfold dOk at this ⊢
    rw [List.all_cons, hk, this]
    rfl
theorem RpD.nil : RpD U ow H [] [] := by unfold RpD; rfl
theorem RpD.cons {p : D × D} {ds : List (D × D)} {kk : Key} {x : V} {xs : List (Key × V)} (hk : keyD p.1 = some kk) (h : Rp U ow H p.2 x) (r : RpD U ow H ds xs) : RpD U ow H (p :: ds) ((kk, x) :: xs) := by unfold RpD; exact ⟨kk, x, xs, rfl, hk, h, r⟩
theorem RpD.append : ∀ {ds es : List (D × D)} {xs ys : List (Key × V)}, RpD U ow H ds xs → RpD U ow H es ys → RpD U ow H (ds ++ es) (xs ++ ys)
  | [], es, xs, ys, h, r => by unfold RpD at h; subst h; exact r
  | d :: ds, es, xs, ys, h, r => by
    unfold RpD at h
    obtain ⟨kk, x, zs, e, hk, h1, h2⟩ := h
    subst e
    exact RpD.cons hk h1 (RpD.append h2 r)
theorem RpD.any : ∀ {ds : List (D × D)} {xs : List (Key × V)} {k : D} {kk : Key}, RpD U ow H ds xs → keyD k = some kk → (ds.any fun p => decide (keyD p.1 = keyD k)) = xs.any fun q => decide (q.1 = kk)
  | [], _, _, _, h, _ => by unfold RpD at h; subst h; rfl
  | p :: ds, _, k, kk, h, e => by
    unfold RpD at h
    obtain ⟨k1, x, ys, e', hk, r, rs⟩ := h
    subst e'
    rw [List.any_cons, List.any_cons, RpD.any rs e, hk, e]
    congr 1
    exact decide_eq_decide.mpr ⟨fun z => Option.some.inj z, fun z => congrArg _ z⟩
theorem RpD.repl : ∀ {ds : List (D × D)} {xs : List (Key × V)} {k d : D} {kk : Key} {v : V}, RpD U ow H ds xs → keyD k = some kk → Rp U ow H d v →
    RpD U ow H (ds.map fun p => if keyD p.1 = keyD k then (p.1, d) else p) (xs.map fun q => if q.1 = kk then (q.1, v) else q)
  | [], _, _, _, _, _, h, _, _ => by unfold RpD at h; subst h; exact RpD.nil
  | p :: ds, _, k, d, kk, v, h, e, rv => by
    unfold RpD at h
    obtain ⟨k1, x, ys, e', hk, r, rs⟩ := h
    subst e'
    rw [List.map_cons, List.map_cons]
    by_cases hkk : k1 = kk
    · rw [if_pos (by rw [hk, e, hkk]), if_pos hkk]
      exact RpD.cons hk rv (RpD.repl rs e rv)
    · rw [if_neg (by rw [hk, e]; exact fun z => hkk (Option.some.inj z)), if_neg hkk]
      exact RpD.cons hk r (RpD.repl rs e rv)
theorem RpD.put {ds : List (D × D)} {xs : List (Key × V)} {k d : D} {kk : Key} {v : V} (h : RpD U ow H ds xs) (e : keyD k = some kk) (rv : Rp U ow H d v) : RpD U ow H (dPut ds k d) (putK xs kk v) := by
  unfold dPut putK
  rw [h.any e]
  split
  · exact h.repl e rv
  · exact h.append (RpD.cons (p := (k, d)) e rv RpD.nil)
/-- what is to be read of a dict -/
theorem Pk.dict {kvs : List (D × D)} {v : V} (h : Pk U ow H (.dict kvs) v) (hn : dOk kvs = true) : ∃ a xs, v = .ref a ∧ (H a = some (.dK xs) ∨ KDs U a xs) ∧ RpD U ow H kvs xs := by
  rcases h with h | ⟨i, a, u, e2, h1, h2, h3, r⟩
  · unfold Rp at h
    rcases h with ⟨e, _⟩ | ⟨a, xs, e, n, r⟩
    · subst e; cases hn
    · exact ⟨a, xs, e, n.imp (fun n => n.1) id, r⟩
  · obtain ⟨xs, eu, r2⟩ := r.dict
    subst eu
    exact ⟨a, xs, e2, .inl h1, r2⟩
/-- what is to be read of a list -/
theorem Pk.list {ds : List D} {v : V} (h : Pk U ow H (.list ds) v) : ∃ a xs, v = .ref a ∧ H a = some (.lst xs) ∧ RpL U ow H ds xs := by
  rcases h with h | ⟨i, a, u, e2, h1, h2, h3, r⟩
  · unfold Rp at h
    obtain ⟨a, xs, e, n, r⟩ := h
    exact ⟨a, xs, e, n.1, r⟩
  · obtain ⟨xs, eu, r2⟩ := r.list
    subst eu
    exact ⟨a, xs, e2, h1, r2⟩
theorem Pk.tuple {ds : List D} {v : V} (h : Pk U ow H (.tuple ds) v) : ∃ a xs, v = .ref a ∧ SqT U.K H a xs ∧ RpL U ow H ds xs := by
  rcases h with h | ⟨i, h⟩
  · unfold Rp at h
    obtain ⟨a, xs, e, n, r⟩ := h
    exact ⟨a, xs, e, n.elim (fun n => .inl (.inl n.1)) (fun n => .inr n), r⟩
  · cases h.soft
theorem Pk.int {i : Int} {v : V} (h : Pk U ow H (.int i) v) : v = .int i := by
  rcases h with h | ⟨_, h⟩
  · unfold Rp at h; exact h
  · cases h.soft
theorem Pk.bool {i : Bool} {v : V} (h : Pk U ow H (.bool i) v) : v = .bl i := by
  rcases h with h | ⟨_, h⟩
  · unfold Rp at h; exact h
  · cases h.soft
theorem Pk.str {i : Str} {v : V} (h : Pk U ow H (.str i) v) : v = .str i := by
  rcases h with h | ⟨_, h⟩
  · unfold Rp at h; exact h
  · cases h.soft
theorem Pk.none {v : V} (h : Pk U ow H .none v) : v = .non := by
  rcases h with h | ⟨_, h⟩
  · unfold Rp at h; exact h
  · cases h.soft
theorem Rp.none : Rp U ow H .none .non := by unfold Rp; rfl
theorem Rp.bool {b : Bool} : Rp U ow H (.bool b) (.bl b) := by unfold Rp; rfl
theorem Rp.int {b : Int} : Rp U ow H (.int b) (.int b) := by unfold Rp; rfl
theorem Rp.str {b : Str} : Rp U ow H (.str b) (.str b) := by unfold Rp; rfl
/-- a new list, a new tuple -/
theorem Rp.newL {ds : List D} {xs : List V} {p : Addr} (h : RpL U ow H ds xs) (np : H p = Option.none) (hc : p ≠ U.cap) (ho : ow p = Option.none) : Rp U ow (upd H p (.lst xs)) (.list ds) (.ref p) := by
  unfold Rp
  exact ⟨p, xs, rfl, ⟨upd_same, ho, hc⟩, h.ext (Ext.new np)⟩
theorem Rp.newT {ds : List D} {xs : List V} {p : Addr} (h : RpL U ow H ds xs) (np : H p = Option.none) (hc : p ≠ U.cap) (ho : ow p = Option.none) : Rp U ow (upd H p (.tup xs)) (.tuple ds) (.ref p) := by
  unfold Rp
  exact ⟨p, xs, rfl, .inl ⟨upd_same, ho, hc⟩, h.ext (Ext.new np)⟩
/-- the new address may be owned -/
theorem RpL.own {ds : List D} {xs : List V} {p : Addr} (h : RpL U ow H ds xs) (np : H p = none) (i : Nat) {o : HO} : RpL U (fun b => if b = p then some i else ow b) (upd H p o) ds xs :=
  RpL.mono (fun a u _ ho e => by
    have hne := ne_of_none e np
    exact ⟨by rw [upd_ne hne]; exact e, by show (if a = p then some i else ow a) = _; rw [if_neg hne]; exact ho⟩) ds xs h
theorem RpD.own {ds : List (D × D)} {xs : List (Key × V)} {p : Addr} (h : RpD U ow H ds xs) (np : H p = none) (i : Nat) {o : HO} : RpD U (fun b => if b = p then some i else ow b) (upd H p o) ds xs :=
  RpD.mono (fun a u _ ho e => by
    have hne := ne_of_none e np
    exact ⟨by rw [upd_ne hne]; exact e, by show (if a = p then some i else ow a) = _; rw [if_neg hne]; exact ho⟩) ds xs h
theorem RF.new {ds : List D} {xs : List V} {p : Addr} {H0 : Hp} (h : RpL U ow H ds xs) (h0 : H0 p = none) (np : H p = none) (hc : p ≠ U.cap) : RF U ow H0 (upd H p (.lst xs)) (.list ds) (.ref p) :=
  ⟨p, _, rfl, h0, upd_same, hc, fun i => .inl ⟨ds, xs, rfl, rfl, h.own np i⟩⟩
theorem Ext.none {H H' : Hp} {p : Addr} (h : Ext U H H') (hc : p ≠ U.cap) (np : H' p = none) : H p = none := by
  cases e : H p with
  | none => rfl
  | some u => rw [h p u hc e] at np; cases np
mutual
theorem Rp.dp : ∀ (d : D) (v : V), PyData.canLay0 d = true → Rp U ow H d v → Dp U.K H v d
  | .none, _, _, h => by unfold Rp at h; subst h; exact .non
  | .bool _, _, _, h => by unfold Rp at h; subst h; exact .bl _
  | .int _, _, _, h => by unfold Rp at h; subst h; exact .int _
  | .str _, _, _, h => by unfold Rp at h; subst h; exact .str _
  | .list ds, _, hs, h => by
    unfold Rp at h
    obtain ⟨a, xs, e, n, r⟩ := h
    subst e
    exact .lst (.inl (.inl n.1)) (RpL.dp ds xs (by simpa [PyData.canLay0] using hs) r)
  | .tuple ds, _, hs, h => by
    unfold Rp at h
    obtain ⟨a, xs, e, n, r⟩ := h
    subst e
    exact .tup (n.elim (fun n => .inl (.inl n.1)) (fun n => .inr n)) (RpL.dp ds xs (by simpa [PyData.canLay0] using hs) r)
  | .dict _, _, hs, h => by simp [PyData.canLay0] at hs
theorem RpL.dp : ∀ (ds : List D) (xs : List V), PyData.canLayAll0 ds = true → RpL U ow H ds xs → DpAll U.K H xs ds
  | [], _, _, h => by unfold RpL at h; subst h; exact .nil
  | d :: ds, _, hs, h => by
    unfold RpL at h
    obtain ⟨x, ys, e, r, rs⟩ := h
    subst e
    have hs' : PyData.canLay0 d = true ∧ PyData.canLayAll0 ds = true := by simpa [PyData.canLayAll0] using hs
    exact .cons (Rp.dp d x hs'.1 r) (RpL.dp ds ys hs'.2 rs)
end
theorem Pk.dp {d : D} {v : V} (h : Pk U ow H d v) (hs : PyData.canLay0 d = true) : Dp U.K H v d := by
  cases d with
  | list ds =>
    obtain ⟨a, xs, e, n, r⟩ := h.list
    subst e
    exact .lst (.inl (.inl n)) (RpL.dp ds xs (by simpa [PyData.canLay0] using hs) r)
  | _ =>
    rcases h with h | ⟨_, h⟩
    · exact Rp.dp _ _ hs h
    · first
      | (simp [PyData.canLay0] at hs; done)
      | cases h.soft
end
end Py

set_option Elab.async false
set_option linter.all false
set_option maxRecDepth 100000
set_option maxHeartbeats 1000000
namespace Py
open PySem PySem.Spec PyProof.Rows L2

/-- the state: what stands in the slots, what is owned, what stood at the entry -/
structure SR (U : Wd) (H0 : Hp) (ow0 ow : Ow) (σ : L2.St) (H : Hp) (σd : St) (s : DS) : Prop where
  trk : ∀ a, ow a ≠ none → ∃ u, H a = some u ∧ ∀ xs, u ≠ .tup xs
  capo : ow U.cap = none
  cello : ow U.cell = none
  own0 : ∀ a i, ow a = some (i + 1) → H0 a = none
  agr : ∀ a u, H0 a = some u → ow a = ow0 a
  base : Ext U H0 H
  slots : ∀ (i : Nat) (d : D) (o : Bool), σd[i]? = some (some (d, o)) → ∃ v, σ[i]? = some (some v) ∧ (o = false → Rp U ow H d v) ∧ (o = true → Own U (i + 1) ow H d v)
  cap : Cap U H s
  len : σd.length = σ.length
section
variable {U : Wd} {H0 H H1 H2 : Hp} {ow0 ow : Ow} {σ : L2.St} {σd : St} {s s1 : DS}
theorem SR.ext (S : SR U H0 ow0 ow σ H σd s) (e : Ext U H H1) (c : Cap U H1 s1) : SR U H0 ow0 ow σ H1 σd s1 := by
  refine ⟨fun a h => ?_, S.capo, S.cello, S.own0, S.agr, S.base.trans e, fun i d o h => ?_, c, S.len⟩
  · obtain ⟨u, hu, ht⟩ := S.trk a h
    exact ⟨u, e a u (fun z => by rw [z] at h; exact h S.capo) hu, ht⟩
  · obtain ⟨v, h1, h2, h3⟩ := S.slots i d o h
    exact ⟨v, h1, fun z => (h2 z).ext e, fun z => (h3 z).ext e⟩
theorem SR.nocap (S : SR U H0 ow0 ow σ H σd s) {p : Addr} (np : H p = none) : p ≠ U.cap := fun z => by
  rw [z, S.cap.row] at np; cases np
theorem SR.noow (S : SR U H0 ow0 ow σ H σd s) {p : Addr} (np : H p = none) : ow p = none := by
  cases e : ow p with
  | none => rfl
  | some i =>
    obtain ⟨u, hu, _⟩ := S.trk p (by rw [e]; intro z; cases z)
    rw [np] at hu; cases hu
theorem Cap.new {p : Addr} {o : HO} (c : Cap U H s) (np : H p = none) : Cap U (upd H p o) s :=
  ⟨by rw [upd_ne (ne_of_none c.row np)]; exact c.row, by rw [upd_ne (ne_of_none c.cells np)]; exact c.cells, c.ne⟩
end

/-- an exception as the heap has it -/
def XFl (H : Hp) (fs : List (Str × Py.D)) (od : Option Addr) : Prop := (fs = [] ∧ od = none) ∨ ∃ m a, fs = [(("reason" : Str), PyData.str m)] ∧ od = some a ∧ H a = some (.xd [(("reason" : Str), V.str m)])
def XRep (U : Wd) (H : Hp) (x : Exc) (cls : Value) (od : Option Addr) : Prop := U.mg x.cls = some cls ∧ XFl H x.flds od
def PostE (U : Wd) (ow : Ow) (fr : D → Bool) (H : Hp) (Q : VK) (d : D) (s' : DS) : Prop :=
  ∀ v H', Ext U H H' → Cap U H' s' → Rp U ow H' d v → (fr d = true → RF U ow H H' d v) → Q v H'
def PostP (U : Wd) (ow : Ow) (H : Hp) (Q : VK) (d : D) (s' : DS) : Prop :=
  ∀ v H', Ext U H H' → Cap U H' s' → Pk U ow H' d v → Q v H'
def PostX (U : Wd) (W : WX) (σ : L2.St) (H : Hp) (x : Exc) (s' : DS) : Prop :=
  ∀ cls od H', Ext U H H' → Cap U H' s' → XRep U H' x cls od → W cls od σ H'
/-- the reading of an expression by what the interpreter says -/
def tOf (U : Wd) (W : WX) (f : St → M D) (fr : D → Bool) : TE := fun σ H Q => ∃ H0 ow0 ow σd s, SR U H0 ow0 ow σ H σd s ∧ Wp (f σd) s (PostE U ow fr H Q) (PostX U W σ H)
def tOfP (U : Wd) (W : WX) (f : St → M D) : TE := fun σ H Q => ∃ H0 ow0 ow σd s, SR U H0 ow0 ow σ H σd s ∧ Wp (f σd) s (PostP U ow H Q) (PostX U W σ H)
def tOfT (U : Wd) (W : WX) (f : St → M Bool) : TT := fun σ H Q => ∃ H0 ow0 ow σd s, SR U H0 ow0 ow σ H σd s ∧ Wp (f σd) s (fun b s' => ∀ H', Ext U H H' → Cap U H' s' → Q b H') (PostX U W σ H)
def tOfA (U : Wd) (W : WX) (f : St → M (List D)) : TA := fun σ H Q => ∃ H0 ow0 ow σd s, SR U H0 ow0 ow σ H σd s ∧ Wp (f σd) s (fun ds s' => ∀ vs H', Ext U H H' → Cap U H' s' → RpL U ow H' ds vs → Q vs H') (PostX U W σ H)
/-- peeked data, one by one -/
def PkL (U : Wd) (ow : Ow) (H : Hp) : List D → List V → Prop
  | [], xs => xs = []
  | d :: ds, xs => ∃ x ys, xs = x :: ys ∧ Pk U ow H d x ∧ PkL U ow H ds ys
def tOfPA (U : Wd) (W : WX) (f : St → M (List D)) : TA := fun σ H Q => ∃ H0 ow0 ow σd s, SR U H0 ow0 ow σ H σd s ∧ Wp (f σd) s (fun ds s' => ∀ vs H', Ext U H H' → Cap U H' s' → PkL U ow H' ds vs → Q vs H') (PostX U W σ H)

theorem PE.imp {X : Cx} {e : Expr} {t t' : TE} (h : PE X e t) (i : ∀ σ H Q, t' σ H Q → t σ H Q) : PE X e t' := ⟨fun pins s σ H Q I q => h.run pins s σ H Q I (i σ H Q q)⟩
theorem PT.imp {X : Cx} {e : Expr} {t t' : TT} (h : PT X e t) (i : ∀ σ H Q, t' σ H Q → t σ H Q) : PT X e t' := ⟨fun pins s σ H Q I q => h.run pins s σ H Q I (i σ H Q q)⟩
theorem PW.imp {X : Cx} {e : Expr} {t t' : TT} (h : PW X e t) (i : ∀ σ H Q, t' σ H Q → t σ H Q) : PW X e t' := ⟨fun wh pins s σ H Q I q => h.run wh pins s σ H Q I (i σ H Q q)⟩
theorem PA.imp {X : Cx} {e : List Expr} {t t' : TA} (h : PA X e t) (i : ∀ σ H Q, t' σ H Q → t σ H Q) : PA X e t' := ⟨fun pos pins s σ H Q I q => h.run pos pins s σ H Q I (i σ H Q q)⟩
theorem PS.imp {X : Cx} {e : Stmt} {t t' : TS} (h : PS X e t) (i : ∀ D σ H, t' D σ H → t D σ H) : PS X e t' := ⟨fun pins s σ H D I q => h.run pins s σ H D I (i D σ H q)⟩
theorem PSs.imp {X : Cx} {e : List Stmt} {t t' : TS} (h : PSs X e t) (i : ∀ D σ H, t' D σ H → t D σ H) : PSs X e t' := ⟨fun pins s σ H D I q => h.run pins s σ H D I (i D σ H q)⟩
/-- nothing is promised where it fails -/
theorem PE.fails {X : Cx} {e : Expr} {U : Wd} {W : WX} {f : St → M D} {fr : D → Bool} (h : ∀ σ, f σ = fail) : PE X e (tOf U W f fr) := ⟨fun pins s σ H Q I q => by
  obtain ⟨H0, ow0, ow, σd, s, S, w⟩ := q

  rw [h] at w
  exact w.of_fail.elim⟩

/-- where one stands -/
structure Good (U : Wd) (k : Nat) (Γ : Cxt) (X : Cx) (W : WX) : Prop where
  P : X.prog = U.P
  w : X.w = U.w
  K : X.K = U.K
  mg : X.mg = U.mg
  base : X.base = U.base
  N : X.N = Γ.N
  sc : X.env.scope = Γ.sc
  nd : Γ.N.Nodup
  calm : X.calm = true
  room : Room k X.A
  tk : Takes X W
  stl : ∀ x, Γ.st.names.lookup x = some .local → Γ.sc.names.lookup x = some .local
  stc : ∀ x, Γ.st.names.lookup x = some .cell → Γ.sc.names.lookup x = some .cell ∧ X.fn x = true

section
variable {U : Wd} {k : Nat} {Γ : Cxt} {X : Cx} {W : WX} {G : Gs}
/-! ### peeking -/
theorem tOf.peek {f : St → M D} {fr : D → Bool} {σ : L2.St} {H : Hp} {Q : VK} (h : tOfP U W f σ H Q) : tOf U W f fr σ H Q := by
  obtain ⟨H0, ow0, ow, σd, s, S, w⟩ := h

  exact ⟨H0, ow0, ow, σd, s, S, w.mono (fun d s' p v H' e c r _ => p v H' e c (.inl r)) fun _ _ h => h⟩
theorem kindL_vis {sc : Scope} {x : Str} (h : kindL sc x = true) : Vis sc x := by
  unfold kindL at h
  split at h
  · exact .inl (by assumption)
  · exact .inr (.inl (by assumption))
  · exact .inr (.inr (by assumption))
  · cases h
theorem kindG_gl (g : Good U k Γ X W) {x : Str} (h : kindG Γ.sc x = true) : Gl X x := by
  unfold kindG at h
  split at h
  · rename_i e
    show X.env.kindOf x = _
    unfold Env.kindOf
    rw [g.sc]
    exact e
  · cases h
theorem idxOf_get {N : List Str} {x : Str} {i : Nat} (h : N.idxOf? x = some i) : N[i]? = some x := by
  rw [List.idxOf?_eq_some_iff] at h
  obtain ⟨h1, h2, _⟩ := h
  rw [List.getElem?_eq_getElem h1]
  exact congrArg some (by simpa using h2)
theorem slot_get {x : Str} {i : Nat} (h : slot Γ x = some i) : kindL Γ.sc x = true ∧ Γ.N[i]? = some x := by
  unfold slot at h
  split at h
  · exact ⟨by assumption, idxOf_get h⟩
  · cases h
theorem okName_d {x : Str} (h : okName x = true) : (x == ("__debug__" : Str)) = false ∧ (x == ("__classdict__" : Str)) = false ∧ x ≠ "__name__" := by
  unfold okName at h
  simp only [Bool.and_eq_true, Bool.not_eq_true'] at h
  exact ⟨h.1.1, h.1.2, fun z => by rw [z] at h; simp at h⟩
end
/-- the module's constants, defs, exceptions -/
structure GlOk (U : Wd) (k : Nat) (G : Gs) : Prop where
  cst : ∀ x d, G.cst x = some d → ∃ u v, U.mg x = some u ∧ RelV v u ∧ ∀ ow H, Rp U ow H d v
  bare : ∀ x, G.bare x = true → U.mg x = none
  exc : ∀ c, G.exc c = true → ∃ C, U.mg c = some (.ref C) ∧ ((G.ini c = false ∧ ∃ bmB, ∃ B newId initId : String, ExcBaseFacts B newId initId bmB ∧ PySem.W.excIn U.K C bmB newId = true ∧ PySem.W.keepIn U.K (.ref C) = true ∧ (∀ X : Cx, X.K = U.K → Raises X (.ref C))) ∨
      (G.ini c = true ∧ ∃ fI, PySem.RefX.RefTxt U.P U.K C fI)) ∧
    ∀ c', G.exc c' = true → ∀ C', U.mg c' = some C' → PySem.W.exmOne U.K C' (.ref C) = some (decide (c' = c))
  sub : ∀ x F b, G.sub x F = some b → ∃ C cv, ∃ v : V, U.mg x = some (.ref C) ∧ ExcC U.K C ∧ ((U.mg F = some cv) ∨ (U.mg F = none ∧ bootBuiltins F = some cv)) ∧ RelV v cv ∧ (∀ u, RelV v u → u = cv) ∧ PySem.W.kitOne U.K (.ref C) cv = some b
section
variable {U : Wd} {k : Nat} {Γ : Cxt} {X : Cx} {W : WX} {G : Gs}
theorem pe_load (g : Good U k Γ X W) (go : GlOk U k G) {x : Str} {p : Pos} : PE X (.Name x p) (tOfP U W (fun σ => loadE G Γ σ true x)) ∧ ∀ fr : D → Bool, (∀ d, fr d = false) → PE X (.Name x p) (tOf U W (fun σ => loadE G Γ σ false x) fr) := by
  by_cases hok : okName x = true
  case neg =>
    refine ⟨⟨fun pins s σ H Q I q => ?_⟩, fun fr _ => ⟨fun pins s σ H Q I q => ?_⟩⟩ <;>
    · obtain ⟨H0, ow0, ow, σd, s, S, w⟩ := q
      dsimp only at w
      unfold loadE at w
      rw [if_neg hok] at w
      exact w.of_fail.elim
  case pos =>
  obtain ⟨hd, hcd, hn⟩ := okName_d hok
  cases hs : slot Γ x with
  | some i =>
    obtain ⟨hk, hN⟩ := slot_get hs
    have pv := pe_var (X := X) (pos := p) (i := i) (x := x) (by rw [g.N]; exact hN) (by rw [g.sc]; exact kindL_vis hk) hd hcd
    constructor
    · refine PE.imp pv fun σ H Q h => ?_
      obtain ⟨H0, ow0, ow, σd, s, S, w⟩ := h
      dsimp only at w
      unfold loadE at w
      rw [if_pos hok, hs] at w
      simp only at w
      split at w
      · rename_i d o e
        obtain ⟨v, h1, h2, h3⟩ := S.slots i d o e
        refine ⟨v, h1, ?_⟩
        rw [if_neg (by simp)] at w
        refine w.of_pure v H Ext.refl S.cap ?_
        cases o with
        | false => exact .inl (h2 rfl)
        | true => exact .inr ⟨_, h3 rfl⟩
      · exact w.of_fail.elim
    · intro fr hfr
      refine PE.imp pv fun σ H Q h => ?_
      obtain ⟨H0, ow0, ow, σd, s, S, w⟩ := h
      dsimp only at w
      unfold loadE at w
      rw [if_pos hok, hs] at w
      simp only at w
      split at w
      · rename_i d o e
        obtain ⟨v, h1, h2, h3⟩ := S.slots i d o e
        refine ⟨v, h1, ?_⟩
        cases o with
        | true => rw [if_pos (by simp)] at w; exact w.of_fail.elim
        | false =>
          rw [if_neg (by simp)] at w
          exact w.of_pure v H Ext.refl S.cap (h2 rfl) fun z => by rw [hfr] at z; cases z
      · exact w.of_fail.elim
  | none =>
    have key : ∀ (b : Bool) (σd : St) (s : DS) (Q : D → DS → Prop) (E : Exc → DS → Prop), Wp (loadE G Γ σd b x) s Q E → kindG Γ.sc x = true ∧ ∃ d, G.cst x = some d ∧ Q d s := by
      intro b σd s Q E w
      unfold loadE at w
      rw [if_pos hok, hs] at w
      simp only at w
      obtain ⟨hg, w⟩ := w.of_guard
      refine ⟨hg, ?_⟩
      split at w
      · rename_i d e
        exact ⟨d, e, w.of_pure⟩
      · exact w.of_fail.elim
    constructor
    · refine ⟨fun pins s σ H Q I q => ?_⟩
      obtain ⟨H0, ow0, ow, σd, s', S, w⟩ := q
      obtain ⟨hg, d, hc, w⟩ := key _ _ _ _ _ w
      obtain ⟨u, v, hm, rv, rp⟩ := go.cst x d hc
      exact (pe_glob (X := X) (pos := p) (kindG_gl g hg) (by rw [g.mg]; exact hm) rv hd).run pins s σ H Q I (w v H Ext.refl S.cap (.inl (rp ow H)))
    · intro fr hfr
      refine ⟨fun pins s σ H Q I q => ?_⟩
      obtain ⟨H0, ow0, ow, σd, s', S, w⟩ := q
      obtain ⟨hg, d, hc, w⟩ := key _ _ _ _ _ w
      obtain ⟨u, v, hm, rv, rp⟩ := go.cst x d hc
      exact (pe_glob (X := X) (pos := p) (kindG_gl g hg) (by rw [g.mg]; exact hm) rv hd).run pins s σ H Q I (w v H Ext.refl S.cap (rp ow H) fun z => by rw [hfr] at z; cases z)
theorem pe_evP (g : Good U k Γ X W) (go : GlOk U k G) {e : Expr} {f : St → Expr → M D} (h : PE X e (tOf U W (fun σ => f σ e) fun _ => false)) : PE X e (tOfP U W (fun σ => evP G Γ σ (f σ) e)) := by
  cases e with
  | Name x p => exact (pe_load g go).1
  | _ => exact PE.imp h fun σ H Q q => tOf.peek q
end
end Py

set_option Elab.async false
set_option linter.all false
set_option maxRecDepth 100000
set_option maxHeartbeats 1000000
namespace Py
open PySem PySem.Spec PyProof.Rows L2

/-- what a rule by values needs of the heap -/
structure Hk (U : Wd) (ow : Ow) (H : Hp) (s : DS) : Prop where
  trk : ∀ a, ow a ≠ none → ∃ u, H a = some u ∧ ∀ xs, u ≠ .tup xs
  capo : ow U.cap = none
  cap : Cap U H s
section
variable {U : Wd} {ow : Ow} {H : Hp} {s : DS}
theorem SR.hk {H0 : Hp} {ow0 : Ow} {σ : L2.St} {σd : St} (S : SR U H0 ow0 ow σ H σd s) : Hk U ow H s := ⟨S.trk, S.capo, S.cap⟩
theorem Hk.nocap (S : Hk U ow H s) {p : Addr} (np : H p = none) : p ≠ U.cap := fun z => by
  rw [z, S.cap.row] at np; cases np
theorem Hk.noow (S : Hk U ow H s) {p : Addr} (np : H p = none) : ow p = none := by
  cases e : ow p with
  | none => rfl
  | some i =>
    obtain ⟨u, hu, _⟩ := S.trk p (by rw [e]; intro z; cases z)
    rw [np] at hu; cases hu
/-- a new list is handed on -/
theorem Hk.newL (S : Hk U ow H s) {ds : List D} {xs : List V} {Q : VK} (fr : D → Bool) (r : RpL U ow H ds xs) (q : PostE U ow fr H Q (.list ds) s) {p : Addr} (np : H p = none) : Q (.ref p) (upd H p (.lst xs)) :=
  q _ _ (Ext.new np) (S.cap.new np) (Rp.newL r np (S.nocap np) (S.noow np)) fun _ => RF.new r np np (S.nocap np)
theorem Hk.newT (S : Hk U ow H s) {ds : List D} {xs : List V} {Q : VK} (fr : D → Bool) (r : RpL U ow H ds xs) (q : PostE U ow fr H Q (.tuple ds) s) (hf : fr (.tuple ds) = false) {p : Addr} (np : H p = none) : Q (.ref p) (upd H p (.tup xs)) :=
  q _ _ (Ext.new np) (S.cap.new np) (Rp.newT r np (S.nocap np) (S.noow np)) fun z => by rw [hf] at z; cases z
end
def rBin (U : Wd) (op : Operator) : R2 := fun x y H Q => ∃ ow s dx dy, Hk U ow H s ∧ Pk U ow H dx x ∧ Pk U ow H dy y ∧ Wp (binop op dx dy) s (PostE U ow isL H Q) (fun _ _ => True)
section
variable {X : Cx} {U : Wd} {ow : Ow} {H : Hp} {s : DS}
theorem sline_eq : sline = sizeLine := by rw [sizeLine_eq]; rfl
theorem postV {v : V} {d : D} {Q : VK} {fr : D → Bool} (S : Hk U ow H s) (q : PostE U ow fr H Q d s) (r : Rp U ow H d v) (hf : fr d = false) : Q v H :=
  q v H Ext.refl S.cap r fun z => by rw [hf] at z; cases z
theorem or_bin (hK : X.K = U.K) (op : Operator) : OpR X (binaryOp op) (rBin U op) := by
  intro pins s' σ H x y v u Q I rx ry h
  obtain ⟨ow, s, dx, dy, S, px, py, w⟩ := h
  unfold binop at w
  split at w
  · rw [px.int] at rx; rw [py.int] at ry
    exact op_add pins s' σ H _ _ v u Q I rx ry ⟨_, _, rfl, rfl, postV S w.of_pure Rp.int rfl⟩
  · rw [px.int] at rx; rw [py.int] at ry
    exact op_sub pins s' σ H _ _ v u Q I rx ry ⟨_, _, rfl, rfl, postV S w.of_pure Rp.int rfl⟩
  · rw [px.int] at rx; rw [py.int] at ry
    obtain ⟨hc, w⟩ := w.of_guard
    exact op_mulW pins s' σ H _ _ v u Q I rx ry ⟨_, _, rfl, rfl, hc, postV S w.of_pure Rp.int rfl⟩
  · rw [px.int] at rx; rw [py.int] at ry
    rcases w.of_ite with ⟨hc, w⟩ | ⟨_, w⟩
    · exact op_fdivW pins s' σ H _ _ v u Q I rx ry ⟨_, _, rfl, rfl, hc, postV S w.of_pure Rp.int rfl⟩
    · obtain ⟨hc, w⟩ := w.of_guard
      rename_i i j _
      obtain ⟨t, rfl⟩ := rx
      obtain ⟨t', rfl⟩ := ry
      exact floordiv_int (by omega) ⟨.int _, H, I.tok _, ⟨_, rfl⟩, postV S w.of_pure Rp.int rfl⟩ (.inl (PyProof.noPylong_of_log2 hc.2))
  · rw [px.int] at rx; rw [py.int] at ry
    obtain ⟨hc, w⟩ := w.of_guard
    exact op_mod pins s' σ H _ _ v u Q I rx ry ⟨_, _, rfl, rfl, hc, postV S w.of_pure Rp.int rfl⟩
  · rw [px.str] at rx; rw [py.str] at ry
    obtain ⟨hc, w⟩ := w.of_guard
    exact op_add_str pins s' σ H _ _ v u Q I rx ry ⟨_, _, rfl, rfl, by rw [← sline_eq]; exact hc, postV S w.of_pure Rp.str rfl⟩
  · obtain ⟨a, xs, e1, h1, r1⟩ := px.list
    obtain ⟨b, ys, e2, h2, r2⟩ := py.list
    subst e1 e2
    obtain ⟨hc, w⟩ := w.of_guard
    exact op_cat pins s' σ H _ _ v u Q I rx ry ⟨a, b, xs, ys, rfl, rfl, h1, h2, by rw [← sline_eq, ← r1.length, ← r2.length]; exact hc, fun p np => S.newL isL (r1.append r2) w.of_pure np⟩
  · rename_i as bs
    obtain ⟨a, xs, e1, h1, r1⟩ := px.tuple
    obtain ⟨b, ys, e2, h2, r2⟩ := py.tuple
    obtain ⟨hc, w⟩ := w.of_guard
    have w := w.of_pure
    have l1 := r1.length
    have l2 := r2.length
    subst e1 e2
    refine op_catA pins s' σ H _ _ v u Q I rx ry ⟨a, b, xs, ys, rfl, rfl, by rw [hK]; exact h1, by rw [hK]; exact h2, by rw [← sline_eq, ← l1, ← l2]; exact hc, fun z => ?_, fun _ z => ?_, fun _ _ p np => S.newT isL (r1.append r2) w rfl np⟩
    · subst z
      have : as = [] := by cases as with | nil => rfl | cons _ _ => simp at l1
      subst this
      rcases py with py | ⟨_, e⟩
      · exact postV S w (by simpa using py) rfl
      · cases e.soft
    · subst z
      have : bs = [] := by cases bs with | nil => rfl | cons _ _ => simp at l2
      subst this
      rcases px with px | ⟨_, e⟩
      · exact postV S w (by simpa using px) rfl
      · cases e.soft
  · obtain ⟨a, xs, e1, h1, r1⟩ := px.list
    rw [py.int] at ry
    subst e1
    obtain ⟨⟨hc1, hc2, hc3⟩, w⟩ := w.of_guard
    exact op_rep pins s' σ H _ _ v u Q I rx ry ⟨a, _, xs, rfl, rfl, h1, by omega, by omega, by rw [← sline_eq, ← r1.length]; exact hc3, fun p np => S.newL isL (r1.rep _) w.of_pure np⟩
  · rename_i as bs
    obtain ⟨a, xs, e1, h1, r1⟩ := px.tuple
    rw [py.int] at ry
    subst e1
    have hl := r1.length
    rcases w.of_ite with ⟨⟨hc1, hc2, hc3, hc4⟩, w⟩ | ⟨_, w⟩
    · exact op_repT pins s' σ H _ _ v u Q I rx ry ⟨a, _, xs, rfl, rfl, by rw [hK]; exact h1, fun z => hc1 (by rw [z] at hl; exact List.length_eq_zero_iff.mp hl), hc2, hc3, by rw [← hl]; exact hc4, fun p np => S.newT isL (r1.rep _) w.of_pure rfl np⟩
    · obtain ⟨⟨hc1, hc2⟩, w2⟩ := w.of_guard
      have w3 := w2.of_pure
      subst hc2
      refine op_once pins s' σ H _ _ v u Q I rx ry ⟨a, xs, rfl, rfl, by rw [hK]; exact h1, fun z => hc1 (by rw [z] at hl; exact List.length_eq_zero_iff.mp hl), ?_⟩
      rcases px with px | ⟨_, e⟩
      · exact postV (fr := isL) S w3 px rfl
      · cases e.soft
  · rw [px.bool] at rx; rw [py.bool] at ry
    cases rx; cases ry
    exact PyProof.Rows.sub_bool ⟨.int _, H, I.tok _, ⟨_, rfl⟩, postV S w.of_pure Rp.int rfl⟩
  · exact w.of_fail.elim

/-! ### comparisons -/
theorem Pk.of_non {d : D} (h : Pk U ow H d .non) : d = .none := by
  rcases h with h | ⟨_, _, _, e, _⟩
  · cases d with
    | none => rfl
    | list _ => unfold Rp at h; obtain ⟨_, _, e, _⟩ := h; cases e
    | tuple _ => unfold Rp at h; obtain ⟨_, _, e, _⟩ := h; cases e
    | dict _ => unfold Rp at h; rcases h with ⟨_, e⟩ | ⟨_, _, e, _⟩ <;> cases e
    | _ => unfold Rp at h; cases h
  · cases e
theorem sign1 {a : Str} (h : a.cps.size = 1) : a = ⟨#[a.cps.getD 0 0]⟩ := by
  obtain ⟨c⟩ := a
  have : c = #[c.getD 0 0] := by
    apply Array.ext
    · simpa using h
    · intro i h1 h2
      have : i = 0 := by simp at h; simp at h2; omega
      subst this
      simp [Array.getD, h1]
  exact congrArg Str.mk this
def rCmp (U : Wd) (op : CmpOp) : R2 := fun x y H Q => ∃ ow s dx dy, Hk U ow H s ∧ Pk U ow H dx x ∧ Pk U ow H dy y ∧ Wp (cmpop op dx dy) s (fun b s' => Q (.bl b) H) (fun _ _ => True)
theorem shaped_lay {d : D} (h : SeqAt.shaped d = true) : PyData.canLay0 d = true := SeqAt.canLay_of_shaped h
theorem eqD_wp {dx dy : D} {s : DS} {Q : Bool → DS → Prop} {E : Exc → DS → Prop} (w : Wp (eqD dx dy) s Q E) : SeqAt.shaped dx = true ∧ SeqAt.shaped dy = true ∧ Q (PyData.eqv dx dy) s := by
  unfold eqD at w
  obtain ⟨hc, w⟩ := w.of_guard
  exact ⟨hc.1, hc.2, w.of_pure⟩
theorem inTuple (hu : X.A.units + 65 < cLine) (neg : Bool) : OpR X (compareOp (if neg then .NotIn else .In)) (fun x y H Q => ∃ d ds, Dp X.K H x d ∧ Dp X.K H y (.tuple ds) ∧ SeqAt.shaped d = true ∧ SeqAt.shaped (.tuple ds) = true ∧ Q (.bl (if neg then !(ds.any fun z => PyData.eqv z d) else ds.any fun z => PyData.eqv z d)) H) := by
  intro pins s σ H x y v u Q I rx ry h
  obtain ⟨d, ds, hd, he, sd, se, q⟩ := h
  obtain ⟨as, r1⟩ := Dp.reads I d x v hd rx
  obtain ⟨bs, r2⟩ := Dp.reads I (.tuple ds) y u he ry
  have hl : PyData.canLayAll0 ds = true := by have := SeqAt.canLay_of_shaped se; simpa [PyData.canLay0] using this
  cases neg with
  | false => exact SeqAt.in_tuple_reads r2 r1 hl (SeqAt.canLay_of_shaped sd) (room_in_shaped sd hu) ⟨.bl _, H, I, rfl, q⟩
  | true => exact SeqAt.notIn_tuple_reads r2 r1 hl (SeqAt.canLay_of_shaped sd) (room_in_shaped sd hu) ⟨.bl _, H, I, rfl, q⟩
/-- the dict's rules, by where it stands -/
theorem kds_in (hK : X.K = U.K) (hw : X.w = U.w) {p : Addr} {xs : List (Key × V)} (D : KDs U p xs) (neg : Bool) (z : Str) : OpR X (compareOp (if neg then .NotIn else .In)) (fun x y H Q => x = .str z ∧ y = .ref p ∧ Q (.bl (if neg then !(valV xs (.inr z)).isSome else (valV xs (.inr z)).isSome)) H) := by
  intro pins s' σ H x y v u Q I rx ry h
  obtain ⟨e1, e2, q⟩ := h
  obtain ⟨⟨es, n, kd⟩, hz, _⟩ := D
  obtain ⟨r, hr, ro⟩ := hz z
  rw [← hK, ← hw] at kd
  rw [← hK] at hr
  have hs : (valV xs (.inr z)).isSome = r.isSome := ro.isSome_eq
  rw [hs] at q
  cases neg with
  | false => exact op_in_kd kd pins s' σ H x y v u Q I rx ry ⟨z, r, e1, e2, hr, q⟩
  | true => exact op_notIn_kd kd pins s' σ H x y v u Q I rx ry ⟨z, r, e1, e2, hr, q⟩
theorem or_in (hK : X.K = U.K) (hw : X.w = U.w) (hu : X.A.units + 65 < cLine) (neg : Bool) : OpR X (compareOp (if neg then .NotIn else .In)) (fun x y H Q => ∃ ow s dx dy, Hk U ow H s ∧ Pk U ow H dx x ∧ Pk U ow H dy y ∧ Wp (inD dx dy) s (fun b s' => Q (.bl (if neg then !b else b)) H) (fun _ _ => True)) := by
  intro pins s' σ H x y v u Q I rx ry h
  obtain ⟨ow, s, dx, dy, S, px, py, w⟩ := h
  unfold inD at w
  split at w
  · obtain ⟨hc, w⟩ := w.of_guard
    have w := w.of_pure
    have h1 := px.dp (shaped_lay hc.1)
    have h2 := py.dp (shaped_lay hc.2)
    rw [← hK] at h1 h2
    cases neg with
    | false => exact op_inD hu pins s' σ H x y v u Q I rx ry ⟨_, _, h1, h2, hc.1, hc.2, w⟩
    | true => exact op_notInD hu pins s' σ H x y v u Q I rx ry ⟨_, _, h1, h2, hc.1, hc.2, w⟩
  · obtain ⟨hc, w⟩ := w.of_guard
    have w := w.of_pure
    have h1 := px.dp (shaped_lay hc.1)
    have h2 := py.dp (shaped_lay hc.2)
    rw [← hK] at h1 h2
    exact inTuple hu neg pins s' σ H x y v u Q I rx ry ⟨_, _, h1, h2, hc.1, hc.2, w⟩
  · obtain ⟨hc, w⟩ := w.of_guard
    have w := w.of_pure
    rw [px.str, sign1 hc] at rx; rw [py.str] at ry
    cases neg with
    | false => exact op_in_sign pins s' σ H _ _ v u Q I rx ry ⟨_, _, rfl, rfl, w⟩
    | true => exact op_notIn_sign pins s' σ H _ _ v u Q I rx ry ⟨_, _, rfl, rfl, w⟩
  · rename_i a kvs
    obtain ⟨hd, w⟩ := w.of_guard
    have w := w.of_pure
    obtain ⟨p, xs, e1, hp, r⟩ := py.dict hd
    have ex := px.str
    rw [r.isSome] at w
    rcases hp with hp | hp
    · subst e1 ex
      obtain rfl : u = Value.ref p := ry
      have dg : DGet H p (.str a) (valV xs (.inr a)) := DGet.k (k := .inr a) hp
      cases neg with
      | false => exact d_in (by omega) I dg rx fun s3 I3 => ⟨.bl _, H, I3, rfl, w⟩
      | true => exact d_notIn (by omega) I dg rx fun s3 I3 => ⟨.bl _, H, I3, rfl, w⟩
    · exact kds_in hK hw hp neg a pins s' σ H x y v u Q I rx ry ⟨ex, e1, w⟩
  · exact w.of_fail.elim
theorem ltOk_ok {d : D} (h : ltOk d = true) : PyData.canLay0 d = true ∧ d.depth ≤ 32 := by
  unfold ltOk at h
  simpa using h
theorem or_cmp (hK : X.K = U.K) (hw : X.w = U.w) (hu : X.A.units + 65 < cLine) (op : CmpOp) : OpR X (compareOp op) (rCmp U op) := by
  intro pins s' σ H x y v u Q I rx ry h
  obtain ⟨ow, s, dx, dy, S, px, py, w⟩ := h
  unfold cmpop at w
  split at w
  · obtain ⟨h1, h2, w⟩ := eqD_wp w
    have k1 := px.dp (shaped_lay h1); have k2 := py.dp (shaped_lay h2)
    rw [← hK] at k1 k2
    exact op_eqD (by omega) pins s' σ H x y v u Q I rx ry ⟨_, _, k1, k2, h1, h2, w⟩
  · obtain ⟨h1, h2, w⟩ := eqD_wp w.of_bind
    have w := w.of_pure
    have k1 := px.dp (shaped_lay h1); have k2 := py.dp (shaped_lay h2)
    rw [← hK] at k1 k2
    exact op_neD (by omega) pins s' σ H x y v u Q I rx ry ⟨_, _, k1, k2, h1, h2, w⟩
  · rw [px.int] at rx; rw [py.int] at ry
    exact op_lt pins s' σ H _ _ v u Q I rx ry ⟨_, _, rfl, rfl, w.of_pure⟩
  · obtain ⟨⟨h1, h2, h3⟩, w⟩ := w.of_guard
    obtain ⟨l1, d1⟩ := ltOk_ok h2
    obtain ⟨l2, d2⟩ := ltOk_ok h3
    have k1 := px.dp l1; have k2 := py.dp l2
    rw [← hK] at k1 k2
    exact op_ltD pins s' σ H x y v u Q I rx ry ⟨_, _, k1, k2, h1, (fun z => nomatch z), by omega, w.of_pure⟩
  · rw [px.int] at rx; rw [py.int] at ry
    exact op_le pins s' σ H _ _ v u Q I rx ry ⟨_, _, rfl, rfl, w.of_pure⟩
  · rw [px.int] at rx; rw [py.int] at ry
    exact op_gt pins s' σ H _ _ v u Q I rx ry ⟨_, _, rfl, rfl, w.of_pure⟩
  · rw [px.int] at rx; rw [py.int] at ry
    exact op_ge pins s' σ H _ _ v u Q I rx ry ⟨_, _, rfl, rfl, w.of_pure⟩
  · have hx : Q (.bl (decide (x = .non))) H := by
      split at w
      · rw [px.none]; exact w.of_pure
      · rename_i hn
        have w := w.of_pure
        have : x ≠ .non := fun z => by
          subst z
          exact hn (px.of_non)
        rw [decide_eq_false this]; exact w
    exact op_isN pins s' σ H _ _ v u Q I rx ry ⟨py.none, hx⟩
  · have hx : Q (.bl (!decide (x = .non))) H := by
      split at w
      · rw [px.none]; exact w.of_pure
      · rename_i hn
        have w := w.of_pure
        have : x ≠ .non := fun z => by
          subst z
          exact hn (px.of_non)
        rw [decide_eq_false this]; exact w
    exact op_notN pins s' σ H _ _ v u Q I rx ry ⟨py.none, hx⟩
  · exact op_isBl pins s' σ H _ _ v u Q I rx ry ⟨_, _, px.bool, py.bool, by rw [← Bool.beq_eq_decide_eq]; exact w.of_pure⟩
  · exact op_notBl pins s' σ H _ _ v u Q I rx ry ⟨_, _, px.bool, py.bool, by rw [← Bool.beq_eq_decide_eq]; exact w.of_pure⟩
  · exact or_in hK hw hu false pins s' σ H x y v u Q I rx ry ⟨ow, s, _, _, S, px, py, w⟩
  · exact or_in hK hw hu true pins s' σ H x y v u Q I rx ry ⟨ow, s, _, _, S, px, py, w.of_bind.mono (fun b s' h => h.of_pure) fun _ _ h => h⟩
  · exact w.of_fail.elim

/-! ### places -/
def rIxA (U : Wd) : R2 := fun x y H Q => ∃ ow s dx dy, Hk U ow H s ∧ Pk U ow H dx x ∧ Pk U ow H dy y ∧ Wp (getD' dx dy) s (PostE U ow (fun _ => false) H Q) (fun _ _ => True)
theorem atI_get {α β : Type} {xs : List α} {ys : List β} {i : Int} {a : α} (hl : xs.length = ys.length) (h : L2.atI xs i = some a) : ∃ j : Nat, xs[j]? = some a ∧ ∀ b, ys[j]? = some b → L2.atI ys i = some b := by
  unfold L2.atI at h ⊢
  rw [hl] at h
  cases e : L2.ixN ys.length i with
  | none => rw [e] at h; cases h
  | some j =>
    rw [e] at h
    exact ⟨j, h, fun b hb => hb⟩
theorem Pk.dictAt {ow : Ow} {H : Hp} {kvs : List (D × D)} {v : V} {k : Key} {d : D} (h : Pk U ow H (.dict kvs) v) (e : dAt k kvs = some d) : ∃ a xs, v = .ref a ∧ (H a = some (.dK xs) ∨ KDs U a xs) ∧ RpD U ow H kvs xs := by
  rcases h with h | ⟨i, a, u, e2, h1, h2, h3, r⟩
  · unfold Rp at h
    rcases h with ⟨q, _⟩ | ⟨a, xs, e, n, r⟩
    · subst q; cases e
    · exact ⟨a, xs, e, n.imp (fun n => n.1) id, r⟩
  · obtain ⟨xs, eu, r2⟩ := r.dict
    subst eu
    exact ⟨a, xs, e2, .inl h1, r2⟩
theorem dict_ix (hK : X.K = U.K) (hw : X.w = U.w) (hu : X.A.units + 1 < cLine) {ow : Ow} (a b : Expr) (pins : List (Addr × Obj)) (s' : Shared) (σ : L2.St) (H : Hp) (x y : V) (v u : Value) (Q : VK) (I : Inv X pins σ H s') (rx : RelV x v) (ry : RelV y u) {k : Key} {kvs : List (D × D)} {d : D}
    (hy : y = kV k) (px : Pk U ow H (.dict kvs) x) (e : dAt k kvs = some d) (q : ∀ v', Rp U ow H d v' → Q v' H) (hs : subscripted b false v u = operate [v, u] (getItem v u)) : wpAny (model X.prog X.w) X.A (subscriptTail a b v u) (EP X pins σ Q) X.xe s' := by
  obtain ⟨p, xs, ex, hp, r⟩ := px.dictAt e
  obtain ⟨v', h1, rp⟩ := r.hit e
  subst ex hy
  obtain rfl : v = Value.ref p := rx
  rcases hp with hp | hp
  · have dg : DGet H p (kV k) (some v') := by rw [← h1]; exact DGet.k hp
    exact tail_any (dict_typeIs I dg) PySem.F.slot_dict_getitem.lookup (d_getItem hu I dg ry fun w' s3 I3 rw' => ⟨v', H, I3, rw', q v' rp⟩) hs
  · obtain ⟨⟨es, n, kd⟩, hz, ht⟩ := hp
    cases k with
    | inl i =>
      exfalso
      unfold valV at h1
      cases hf : xs.find? (fun kv => decide (kv.1 = Sum.inl i)) with
      | none => rw [hf] at h1; cases h1
      | some p =>
        have h2 := List.find?_some hf
        obtain ⟨z, e3⟩ := ht p (List.mem_of_find?_eq_some hf)
        rw [e3] at h2
        simp at h2
    | inr z =>
      obtain ⟨r', hr, ro⟩ := hz z
      rw [h1] at ro
      cases r' with
      | none => exact ro.elim
      | some u0 =>
        rw [← hK] at hr
        rw [← hK, ← hw] at kd
        exact ix_kdict a b pins s' σ H (.ref p) (kV (.inr z)) _ u Q I rfl ry ⟨p, z, v', rfl, rfl, ⟨es, n, u0, kd.at_, kd.lit, hr, ro⟩, q v' rp⟩ hs
theorem or_ix (hK : X.K = U.K) (hw : X.w = U.w) (hu : X.A.units + 65 < cLine) : IxR X (rIxA U) := by
  intro a b pins s' σ H x y v u Q I rx ry h hs
  obtain ⟨ow, s, dx, dy, S, px, py, w⟩ := h
  unfold getD' at w
  split at w
  · obtain ⟨p, xs, e1, h1, r1⟩ := px.list
    rw [py.int] at ry
    subst e1
    split at w
    · rename_i ds i d e
      have w := w.of_pure
      obtain ⟨j, hj, hb⟩ := atI_get r1.length e
      obtain ⟨x', hx', rp⟩ := r1.get hj
      exact ix_list a b pins s' σ H _ _ v u Q I rx ry ⟨p, xs, _, x', rfl, rfl, .inl (.inl h1), hb x' hx', postV S w rp rfl⟩ hs
    · exact w.of_fail.elim
  · obtain ⟨p, xs, e1, h1, r1⟩ := px.tuple
    rw [py.int] at ry
    subst e1
    split at w
    · rename_i ds i d e
      have w := w.of_pure
      obtain ⟨j, hj, hb⟩ := atI_get r1.length e
      obtain ⟨x', hx', rp⟩ := r1.get hj
      exact ix_tup a b pins s' σ H _ _ v u Q I rx ry ⟨p, xs, _, x', rfl, rfl, by rw [hK]; exact h1, hb x' hx', postV S w rp rfl⟩ hs
    · exact w.of_fail.elim
  · rename_i z i
    rw [px.str] at rx; rw [py.int] at ry
    split at w
    · rename_i c e
      obtain ⟨hz, w⟩ := w.of_guard
      have w := w.of_pure
      rw [sline_eq] at hz
      exact ix_str a b pins s' σ H _ _ v u Q I rx ry ⟨z, i, c, rfl, rfl, hz, e, postV S w Rp.str rfl⟩ hs
    · exact w.of_fail.elim
  · rename_i kvs i
    split at w
    · rename_i d e
      have w := w.of_pure
      exact dict_ix hK hw (by omega) a b pins s' σ H x y v u Q I rx ry (k := .inl i) py.int px e (fun v' rp => postV S w rp rfl) hs
    · exact w.of_fail.elim
  · rename_i kvs i
    split at w
    · rename_i d e
      have w := w.of_pure
      exact dict_ix hK hw (by omega) a b pins s' σ H x y v u Q I rx ry (k := .inr i) py.str px e (fun v' rp => postV S w rp rfl) hs
    · exact w.of_fail.elim
  · exact w.of_fail.elim
def rSlA' (U : Wd) : V → Option Int → Option Int → Hp → VK → Prop := fun x lo hi H Q => ∃ ow s dx, Hk U ow H s ∧ Pk U ow H dx x ∧ Wp (getS dx lo hi) s (PostE U ow isL H Q) (fun _ _ => True)
theorem RpL.cut {ds : List D} {xs : List V} (r : RpL U ow H ds xs) (lo hi : Option Int) : RpL U ow H (Py.cut ds lo hi) (L2.cutV xs lo hi) := by
  unfold Py.cut L2.cutV
  rw [r.length]
  exact (r.drop _).take _
theorem or_sl (hK : X.K = U.K) : SlR X (rSlA' U) := by
  intro pins s' σ H x v vl vu lo hi sl Q I rx hs pl pu h
  obtain ⟨ow, s, dx, S, px, w⟩ := h
  unfold getS at w
  split at w
  · obtain ⟨p, xs, e1, h1, r1⟩ := px.list
    exact sl_list pins s' σ H x v vl vu lo hi sl Q I rx hs pl pu ⟨p, xs, e1, .inl (.inl h1), fun q nq => S.newL isL (r1.cut lo hi) w.of_pure nq⟩
  · rename_i ds
    obtain ⟨p, xs, e1, h1, r1⟩ := px.tuple
    have w := w.of_pure
    have hl := r1.length
    refine sl_tupA pins s' σ H x v vl vu lo hi sl Q I rx hs pl pu ⟨p, xs, e1, by rw [hK]; exact h1, fun hw => ?_, fun _ q nq => S.newT isL (r1.cut lo hi) w rfl nq⟩
    have e : Py.cut ds lo hi = ds := by
      unfold Py.cut
      rw [hl, hw.1, hw.2, List.drop_zero, Nat.sub_zero, ← hl, List.take_length]
    rw [e] at w
    rcases px with px | ⟨_, e⟩
    · rw [e1] at px
      exact postV S w px rfl
    · cases e.soft
  · rename_i z
    obtain ⟨hz, w⟩ := w.of_guard
    have w := w.of_pure
    rw [sline_eq] at hz
    exact sl_str pins s' σ H x v vl vu lo hi sl Q I rx hs pl pu ⟨z, px.str, hz, postV S w Rp.str rfl⟩
  · exact w.of_fail.elim
end
end Py

set_option Elab.async false
set_option linter.all false
set_option maxRecDepth 100000
set_option maxHeartbeats 1000000
namespace Py
open PySem PySem.Spec PyProof.Rows L2

section
variable {U : Wd} {k : Nat} {Γ : Cxt} {X : Cx} {W : WX} {G : Gs} {ow : Ow} {H : Hp} {s : DS}
/-! ### argument lists -/
theorem starEach_ns {e : Expr} {es : List Expr} {env : Env} (h : notStar e = true) : starEach (e :: es) env = (false, eval e env) :: starEach es env := by
  cases e <;> first | rfl | exact absurd h (by show ¬ (false = true); decide)
theorem pa_evs {f : St → Expr → M D} (g : ∀ e, PE X e (tOf U W (fun σ => f σ e) fun _ => false)) : ∀ es : List Expr, PA X es (tOfA U W (fun σ => evs (f σ) es))
  | [] => PA.imp pa_nil fun σ H Q h => by
    obtain ⟨H0, ow0, ow, σd, s, S, w⟩ := h
    exact w.of_pure [] H Ext.refl S.cap RpL.nil
  | e :: es => by
    by_cases hn : notStar e = true
    · refine PA.imp (pa_cons (g e) (pa_evs g es) (starEach_ns hn)) fun σ H Q h => ?_
      obtain ⟨H0, ow0, ow, σd, s, S, w⟩ := h
      have w : Wp (evs (f σd) (e :: es)) s _ _ := w
      unfold evs at w
      rw [if_pos hn] at w
      refine ⟨H0, ow0, ow, σd, s, S, w.of_bind.mono (fun d1 s1 h1 v1 H1 e1 c1 r1 _ => ⟨H0, ow0, ow, σd, s1, S.ext e1 c1, h1.of_bind.mono (fun ds s2 h2 vs H2 e2 c2 r2 => h2.of_pure (v1 :: vs) H2 (e1.trans e2) c2 (RpL.cons (r1.ext e2) r2)) fun x s' hx cls od H' e' => hx cls od H' (e1.trans e')⟩) fun _ _ h => h⟩
    · refine ⟨fun pos pins s σ H Q I h => ?_⟩
      obtain ⟨H0, ow0, ow, σd, s, S, w⟩ := h
      have w : Wp (evs (f σd) (e :: es)) s _ _ := w
      unfold evs at w
      rw [if_neg hn] at w
      exact w.of_fail.elim
theorem pa_evsP {f : St → Expr → M D} (g : ∀ e, PE X e (tOfP U W (fun σ => f σ e))) : ∀ es : List Expr, PA X es (tOfPA U W (fun σ => evs (f σ) es))
  | [] => PA.imp pa_nil fun σ H Q h => by
    obtain ⟨H0, ow0, ow, σd, s, S, w⟩ := h
    exact w.of_pure [] H Ext.refl S.cap (by unfold PkL; rfl)
  | e :: es => by
    by_cases hn : notStar e = true
    · refine PA.imp (pa_cons (g e) (pa_evsP g es) (starEach_ns hn)) fun σ H Q h => ?_
      obtain ⟨H0, ow0, ow, σd, s, S, w⟩ := h
      have w : Wp (evs (f σd) (e :: es)) s _ _ := w
      unfold evs at w
      rw [if_pos hn] at w
      refine ⟨H0, ow0, ow, σd, s, S, w.of_bind.mono (fun d1 s1 h1 v1 H1 e1 c1 r1 => ⟨H0, ow0, ow, σd, s1, S.ext e1 c1, h1.of_bind.mono (fun ds s2 h2 vs H2 e2 c2 r2 => h2.of_pure (v1 :: vs) H2 (e1.trans e2) c2 (by unfold PkL; exact ⟨v1, vs, rfl, r1.ext e2, r2⟩)) fun x s' hx cls od H' e' => hx cls od H' (e1.trans e')⟩) fun _ _ h => h⟩
    · refine ⟨fun pos pins s σ H Q I h => ?_⟩
      obtain ⟨H0, ow0, ow, σd, s, S, w⟩ := h
      have w : Wp (evs (f σd) (e :: es)) s _ _ := w
      unfold evs at w
      rw [if_neg hn] at w
      exact w.of_fail.elim
/-- evs needs no star: what calls ask -/
theorem evs_star {f : Expr → M D} {es : List Expr} {s : DS} {Q : List D → DS → Prop} {E : Exc → DS → Prop} (w : Wp (evs f es) s Q E) : ∀ e r, es = e :: r → notStar e = true := by
  intro e r h
  subst h
  unfold evs at w
  exact (w.of_guard).1
theorem plain_star {env : Env} {pos : Pos} : ∀ {es : List Expr}, (∀ e ∈ es, notStar e = true) → (backTo pos (starEach es env)).any (·.1) = false
  | [], _ => rfl
  | e :: es, h => by
    rw [starEach_ns (h e List.mem_cons_self)]
    show ((false || (backTo pos (starEach es env)).any (·.1)) : Bool) = false
    rw [plain_star (fun e' h' => h e' (by simp [h']))]
    rfl
theorem noStars_mem {es : List Expr} (h : noStars es = true) : ∀ e ∈ es, notStar e = true := fun e he => List.all_eq_true.mp h e he

/-! ### the built-in functions -/
def rBi (U : Wd) (f : Str) : List V → Hp → VK → Prop := fun vs H Q => ∃ ow s ds, Hk U ow H s ∧ PkL U ow H ds vs ∧ Wp (bi f ds) s (PostE U ow (fun d => frB f && isL d) H Q) (fun _ _ => True)
theorem PkL.one {d : D} {vs : List V} (h : PkL U ow H [d] vs) : ∃ v, vs = [v] ∧ Pk U ow H d v := by
  unfold PkL at h
  obtain ⟨x, ys, e, p, r⟩ := h
  unfold PkL at r
  subst r
  exact ⟨x, e, p⟩
theorem PkL.two {d e : D} {vs : List V} (h : PkL U ow H [d, e] vs) : ∃ v w, vs = [v, w] ∧ Pk U ow H d v ∧ Pk U ow H e w := by
  unfold PkL at h
  obtain ⟨x, ys, e1, p, r⟩ := h
  obtain ⟨y, e2, q⟩ := PkL.one r
  subst e2
  exact ⟨x, y, e1, p, q⟩
theorem ints_of : ∀ {ds : List D} {xs : List V} {ns : List Int}, RpL U ow H ds xs → intsOf ds = some ns → xs = ns.map V.int
  | [], xs, ns, r, e => by
    unfold RpL at r
    unfold intsOf at e
    cases e; subst r; rfl
  | d :: ds, xs, ns, r, e => by
    unfold RpL at r
    obtain ⟨x, ys, e1, p, r⟩ := r
    unfold intsOf at e
    split at e
    · rename_i z; cases z
    · rename_i i ds' z
      cases z
      cases h : intsOf ds with
      | none => rw [h] at e; cases e
      | some ms =>
        rw [h] at e
        cases e
        unfold Rp at p
        rw [e1, p, ints_of r h]
        rfl
    · cases e
theorem bools_of : ∀ {ds : List D} {xs : List V} {ns : List Bool}, RpL U ow H ds xs → boolsOf ds = some ns → xs = ns.map V.bl
  | [], xs, ns, r, e => by
    unfold RpL at r
    unfold boolsOf at e
    cases e; subst r; rfl
  | d :: ds, xs, ns, r, e => by
    unfold RpL at r
    obtain ⟨x, ys, e1, p, r⟩ := r
    unfold boolsOf at e
    split at e
    · rename_i z; cases z
    · rename_i i ds' z
      cases z
      cases h : boolsOf ds with
      | none => rw [h] at e; cases e
      | some ms =>
        rw [h] at e
        cases e
        unfold Rp at p
        rw [e1, p, bools_of r h]
        rfl
    · cases e
theorem maxI_mem : ∀ (ns : List Int) (n : Int), (ns.foldl max n = n ∨ ns.foldl max n ∈ ns) ∧ n ≤ ns.foldl max n ∧ ∀ m ∈ ns, m ≤ ns.foldl max n
  | [], n => ⟨.inl rfl, Int.le_refl _, fun m h => by simp at h⟩
  | x :: r, n => by
    obtain ⟨h1, h2, h3⟩ := maxI_mem r (max n x)
    rw [List.foldl_cons]
    refine ⟨?_, Int.le_trans (Int.le_max_left _ _) h2, fun m hm => ?_⟩
    · rcases h1 with h1 | h1
      · rw [h1]
        by_cases hc : n ≤ x
        · rw [Int.max_eq_right hc]; exact .inr List.mem_cons_self
        · rw [Int.max_eq_left (by omega)]; exact .inl rfl
      · exact .inr (List.mem_cons_of_mem _ h1)
    · rcases List.mem_cons.mp hm with e | hm
      · subst e; exact Int.le_trans (Int.le_max_right _ _) h2
      · exact h3 m hm
theorem minI_mem : ∀ (ns : List Int) (n : Int), (ns.foldl min n = n ∨ ns.foldl min n ∈ ns) ∧ ns.foldl min n ≤ n ∧ ∀ m ∈ ns, ns.foldl min n ≤ m
  | [], n => ⟨.inl rfl, Int.le_refl _, fun m h => by simp at h⟩
  | x :: r, n => by
    obtain ⟨h1, h2, h3⟩ := minI_mem r (min n x)
    rw [List.foldl_cons]
    refine ⟨?_, Int.le_trans h2 (Int.min_le_left _ _), fun m hm => ?_⟩
    · rcases h1 with h1 | h1
      · rw [h1]
        by_cases hc : n ≤ x
        · rw [Int.min_eq_left hc]; exact .inl rfl
        · rw [Int.min_eq_right (by omega)]; exact .inr List.mem_cons_self
      · exact .inr (List.mem_cons_of_mem _ h1)
    · rcases List.mem_cons.mp hm with e | hm
      · subst e; exact Int.le_trans h2 (Int.min_le_right _ _)
      · exact h3 m hm
theorem maxI_is {n m : Int} {ns : List Int} (hm : m ∈ n :: ns) (hb : ∀ y, y ∈ n :: ns → y ≤ m) : m = maxI (n :: ns) := by
  obtain ⟨h1, h2, h3⟩ := maxI_mem ns n
  show m = ns.foldl max n
  refine Int.le_antisymm ?_ (hb _ ?_)
  · rcases List.mem_cons.mp hm with e | hm
    · subst e; exact h2
    · exact h3 m hm
  · rcases h1 with h1 | h1
    · rw [h1]; exact List.mem_cons_self
    · exact List.mem_cons_of_mem _ h1
theorem minI_is {n m : Int} {ns : List Int} (hm : m ∈ n :: ns) (hb : ∀ y, y ∈ n :: ns → m ≤ y) : m = minI (n :: ns) := by
  obtain ⟨h1, h2, h3⟩ := minI_mem ns n
  show m = ns.foldl min n
  refine Int.le_antisymm (hb _ ?_) ?_
  · rcases h1 with h1 | h1
    · rw [h1]; exact List.mem_cons_self
    · exact List.mem_cons_of_mem _ h1
  · rcases List.mem_cons.mp hm with e | hm
    · subst e; exact h2
    · exact h3 m hm
theorem dp_ints {K : PySem.W.Frag} : ∀ ns : List Int, DpAll K H (ns.map V.int) (ns.map PyData.int)
  | [] => .nil
  | n :: ns => .cons (.int n) (dp_ints ns)
theorem alike_allInts (ns : List Int) : PySem.W.AlikeAll (ns.map PyData.int) := by
  refine ⟨fun x hx y hy => ?_, fun x hx => ?_⟩
  · obtain ⟨i, _, rfl⟩ := List.mem_map.mp hx
    obtain ⟨j, _, rfl⟩ := List.mem_map.mp hy
    rfl
  · obtain ⟨i, _, rfl⟩ := List.mem_map.mp hx
    intro z; cases z
theorem depth_ints : ∀ ns : List Int, PyData.depthAll (ns.map PyData.int) ≤ 1
  | [] => by simp [PyData.depthAll]
  | n :: ns => by
    have := depth_ints ns
    simp only [List.map_cons, PyData.depthAll, PyData.depth]
    omega
theorem cr_maxT (hc : X.calm = true) (hu : X.A.units + 64 < cLine) : CallR X (.builtin "max") (fun vs H Q => ∃ (a : Addr) (n : Int) (ns : List Int), vs = [V.ref a] ∧ SqT X.K H a ((n :: ns).map V.int) ∧ Q (.int (maxI (n :: ns))) H) := by
  intro pins s σ H vs us Q I r h
  obtain ⟨a, n, ns, rfl, hs, q⟩ := h
  obtain ⟨its, rv, hl, _⟩ := I.tuple hs
  rw [Vals.ref1 r]
  obtain ⟨as, hr⟩ := Dp.readsAll I _ _ its (dp_ints (K := X.K) (H := H) (n :: ns)) rv
  refine PySem.W.max_tuple_data (x := .int n) (xs := ns.map .int) (as := as) (I.ok.hd hc) hl hr (alike_allInts (n :: ns)) (by have := depth_ints (n :: ns); simp only [List.map_cons] at this; omega) fun i v h' tk bs _ hv hk => ?_
  rw [PySem.W.maxD_ints] at hv
  cases hv
  exact ⟨.int _, H, I.kept hk, ⟨_, rfl⟩, q⟩
theorem cr_minT (hc : X.calm = true) (hu : X.A.units + 64 < cLine) : CallR X (.builtin "min") (fun vs H Q => ∃ (a : Addr) (n : Int) (ns : List Int), vs = [V.ref a] ∧ SqT X.K H a ((n :: ns).map V.int) ∧ Q (.int (minI (n :: ns))) H) := by
  intro pins s σ H vs us Q I r h
  obtain ⟨a, n, ns, rfl, hs, q⟩ := h
  obtain ⟨its, rv, hl, _⟩ := I.tuple hs
  rw [Vals.ref1 r]
  obtain ⟨as, hr⟩ := Dp.readsAll I _ _ its (dp_ints (K := X.K) (H := H) (n :: ns)) rv
  refine PySem.W.min_tuple_data (x := .int n) (xs := ns.map .int) (as := as) (I.ok.hd hc) hl hr (alike_allInts (n :: ns)) (by have := depth_ints (n :: ns); simp only [List.map_cons] at this; omega) fun i v h' tk bs _ hv hk => ?_
  rw [PySem.W.minD_ints] at hv
  cases hv
  exact ⟨.int _, H, I.kept hk, ⟨_, rfl⟩, q⟩
/-- sum of a tuple of ints -/
theorem cr_sumT (hc : X.calm = true) : CallR X (.builtin "sum") (fun vs H Q => ∃ (a : Addr) (ns : List Int), vs = [V.ref a] ∧ SqT X.K H a (ns.map V.int) ∧ Q (.int ns.sum) H) := by
  intro pins s σ H vs us Q I r h
  obtain ⟨a, ns, rfl, hs, q⟩ := h
  obtain ⟨its, rv, hl, _⟩ := I.tuple hs
  rw [Vals.ref1 r]
  have hi := rv.ints
  obtain ⟨xs, e⟩ := hi.allInts.items
  have hn : numsOf (intItems xs).toList = ns := by rw [← e]; exact hi.numsOf
  rw [nums_intItems] at hn
  have hl : s.heap.IsTuple a its.toArray := hl
  rw [e] at hl
  refine PySem.W.ktm_sumG (I.ok.hd hc) hl fun h' tk t' hk => ?_
  rw [preSum_eq, List.take_of_length_le (by simp), hn]
  exact ⟨.int _, H, I.kept hk, ⟨_, rfl⟩, q⟩
theorem sortI_is {ns ns' : List Int} (h : ns'.Perm ns) (hs : ns'.Pairwise (· ≤ ·)) : sortI ns = ns' := by
  refine List.Perm.eq_of_pairwise (le := (· ≤ ·)) (fun a b _ _ h1 h2 => Int.le_antisymm h1 h2) ?_ hs ((List.mergeSort_perm ns _).trans h.symm)
  have := List.pairwise_mergeSort (le := fun a b : Int => decide (a ≤ b)) (fun a b c h1 h2 => by simp at h1 h2 ⊢; omega) (fun a b => by simp; omega) ns
  exact this.imp fun h => of_decide_eq_true h
theorem RpL.ints : ∀ ns : List Int, RpL U ow H (ns.map PyData.int) (ns.map V.int)
  | [] => RpL.nil
  | n :: ns => RpL.cons Rp.int (RpL.ints ns)
theorem srtOk_ok {ds : List D} (h : srtOk ds = true) : PySem.W.AllAlike ds ∧ PySem.W.Sortable ds ∧ PyData.canLayAll0 ds = true ∧ ∀ d ∈ ds, d.depth ≤ 32 := by
  unfold srtOk at h
  rw [Bool.and_eq_true, Bool.and_eq_true, Bool.and_eq_true, Bool.or_eq_true] at h
  obtain ⟨⟨h1, h2⟩, h3, _⟩ := h
  refine ⟨fun d hd e he => List.all_eq_true.mp (List.all_eq_true.mp h1 d hd) e he, ?_, ?_, fun d hd => (ltOk_ok (List.all_eq_true.mp h3 d hd)).2⟩
  · rcases h2 with h2 | h2
    · refine .inl fun d hd => ?_
      have := List.all_eq_true.mp h2 d hd
      unfold neT at this
      split at this
      · exact ⟨_, _, rfl⟩
      · cases this
    · refine .inr fun d hd => ?_
      have := List.all_eq_true.mp h2 d hd
      refine ⟨fun z => (by rw [z] at this; cases this), fun xs z => (by rw [z] at this; cases this)⟩
  · have : ∀ l : List D, (∀ d ∈ l, PyData.canLay0 d = true) → PyData.canLayAll0 l = true := fun l => by
      induction l with
      | nil => intro _; simp [PyData.canLayAll0]
      | cons x l ih =>
        intro hl
        simp only [PyData.canLayAll0, Bool.and_eq_true]
        exact ⟨hl x (by simp), ih fun d hd => hl d (by simp [hd])⟩
    exact this ds fun d hd => (ltOk_ok (List.all_eq_true.mp h3 d hd)).1
theorem RpL.pairs : ∀ {ds : List D} {xs : List V}, RpL U ow H ds xs → ∀ b ∈ ds.zip xs, Rp U ow H b.1 b.2
  | [], _, h, b, hb => by unfold RpL at h; subst h; simp at hb
  | d :: ds, _, h, b, hb => by
    unfold RpL at h
    obtain ⟨x, ys, e, r, rs⟩ := h
    subst e
    rw [List.zip_cons_cons] at hb
    rcases List.mem_cons.mp hb with rfl | hb
    · exact r
    · exact RpL.pairs rs b hb
theorem RpL.of_pairs : ∀ {zs : List (D × V)}, (∀ b ∈ zs, Rp U ow H b.1 b.2) → RpL U ow H (zs.map Prod.fst) (zs.map Prod.snd)
  | [], _ => RpL.nil
  | z :: zs, h => RpL.cons (h z (by simp)) (RpL.of_pairs fun b hb => h b (by simp [hb]))
theorem zip_fst' : ∀ {ds : List D} {xs : List V}, ds.length = xs.length → (ds.zip xs).map Prod.fst = ds
  | [], _, _ => by simp
  | d :: ds, [], h => by simp at h
  | d :: ds, x :: xs, h => by rw [List.zip_cons_cons, List.map_cons, zip_fst' (by simpa using h)]
theorem srt_rep {ds : List D} {xs : List V} (h : RpL U ow H ds xs) : RpL U ow H (ds.mergeSort (PySem.W.dataLe false id)) (((ds.zip xs).mergeSort (PySem.W.dataLe false Prod.fst)).map Prod.snd) := by
  have e : ((ds.zip xs).mergeSort (PySem.W.dataLe false Prod.fst)).map Prod.fst = ds.mergeSort (PySem.W.dataLe false id) := by
    have := PySem.W.sort_maps (r := PySem.W.dataLe false Prod.fst) (s := PySem.W.dataLe false id) (Prod.fst : D × V → D) (l := ds.zip xs) (fun _ _ _ _ => rfl)
    rw [zip_fst' h.length] at this
    exact this
  rw [← e]
  exact RpL.of_pairs fun b hb => h.pairs b (List.mem_mergeSort.mp hb)
theorem cr_bi (hK : X.K = U.K) (hc : X.calm = true) (hu : X.A.units + 64 < cLine) {f : Str} {u : Value} (hv : bootBuiltins f = some u) : CallR X u (rBi U f) := by
  intro pins s' σ H vs us Q I r h
  obtain ⟨ow, s, ds, S, pl, w⟩ := h
  unfold bi at w
  by_cases h1 : f = ("len" : Str)
  · subst h1
    rw [if_pos rfl] at w
    cases (PySem.boot_len.symm.trans hv)
    split at w
    · obtain ⟨v, rfl, p⟩ := pl.one
      obtain ⟨a, xs, e, hx, rr⟩ := p.list
      subst e
      have w := w.of_pure
      rw [rr.length] at w
      exact call_len_seq pins s' σ H _ us Q I r ⟨a, xs, rfl, .inl (.inl (.inl hx)), postV S w Rp.int rfl⟩
    · obtain ⟨v, rfl, p⟩ := pl.one
      obtain ⟨a, xs, e, hx, rr⟩ := p.tuple
      subst e
      have w := w.of_pure
      rw [rr.length] at w
      exact call_len_seq pins s' σ H _ us Q I r ⟨a, xs, rfl, .inr (by rw [hK]; exact hx), postV S w Rp.int rfl⟩
    · obtain ⟨v, rfl, p⟩ := pl.one
      obtain ⟨hz, w⟩ := w.of_guard
      have w := w.of_pure
      rw [sline_eq] at hz
      rw [p.str] at r
      exact call_len_str pins s' σ H _ us Q I r ⟨_, rfl, hz, postV S w Rp.int rfl⟩
    · exact w.of_fail.elim
  rw [if_neg h1] at w
  by_cases h2 : f = ("sum" : Str)
  · subst h2
    rw [if_pos rfl] at w
    cases ((show bootBuiltins "sum" = some (.builtin "sum") by decide +kernel).symm.trans hv)
    split at w
    · obtain ⟨v, rfl, p⟩ := pl.one
      rename_i x
      split at w
      · rename_i ns e
        have w := w.of_pure
        cases x with
        | list ds =>
          obtain ⟨a, xs, e1, hx, rr⟩ := p.list
          subst e1
          have e2 := ints_of rr (by simpa [itemsOf] using e)
          subst e2
          exact cr_sum hc pins s' σ H _ us Q I r ⟨a, ns, rfl, .inl (.inl hx), postV S w Rp.int rfl⟩
        | tuple ds =>
          obtain ⟨a, xs, e1, hx, rr⟩ := p.tuple
          subst e1
          have e2 := ints_of rr (by simpa [itemsOf] using e)
          subst e2
          exact cr_sumT hc pins s' σ H _ us Q I r ⟨a, ns, rfl, by rw [hK]; exact hx, postV S w Rp.int rfl⟩
        | _ => simp [itemsOf] at e
      · exact w.of_fail.elim
    · exact w.of_fail.elim
  rw [if_neg h2] at w
  by_cases h3 : f = ("abs" : Str)
  · subst h3
    rw [if_pos rfl] at w
    cases (PyProof.Rows.boot_abs.symm.trans hv)
    split at w
    · obtain ⟨v, rfl, p⟩ := pl.one
      rw [p.int] at r
      exact call_abs pins s' σ H _ us Q I r ⟨_, rfl, postV S w.of_pure Rp.int rfl⟩
    · exact w.of_fail.elim
  rw [if_neg h3] at w
  by_cases h4 : f = ("max" : Str)
  · subst h4
    rw [if_pos rfl] at w
    cases ((show bootBuiltins "max" = some (.builtin "max") by decide +kernel).symm.trans hv)
    split at w
    · obtain ⟨v, v', rfl, p, p'⟩ := pl.two
      rw [p.int, p'.int] at r
      exact call_max2 hc pins s' σ H _ us Q I r ⟨_, _, rfl, postV S w.of_pure Rp.int rfl⟩
    · obtain ⟨v, rfl, p⟩ := pl.one
      rename_i x
      split at w
      · rename_i n ns e
        have w := w.of_pure
        cases x with
        | list ds =>
          obtain ⟨a, xs, e1, hx, rr⟩ := p.list
          subst e1
          have e2 := ints_of rr (by simpa [itemsOf] using e)
          subst e2
          refine cr_max hc pins s' σ H _ us Q I r ⟨a, n :: ns, rfl, .inl (.inl hx), by simp, fun m hm hb => ?_⟩
          rw [maxI_is hm hb]
          exact postV S w Rp.int rfl
        | tuple ds =>
          obtain ⟨a, xs, e1, hx, rr⟩ := p.tuple
          subst e1
          have e2 := ints_of rr (by simpa [itemsOf] using e)
          subst e2
          exact cr_maxT hc hu pins s' σ H _ us Q I r ⟨a, n, ns, rfl, by rw [hK]; exact hx, postV S w Rp.int rfl⟩
        | _ => simp [itemsOf] at e
      · exact w.of_fail.elim
    · exact w.of_fail.elim
  rw [if_neg h4] at w
  by_cases h5 : f = ("min" : Str)
  · subst h5
    rw [if_pos rfl] at w
    cases ((show bootBuiltins "min" = some (.builtin "min") by decide +kernel).symm.trans hv)
    split at w
    · obtain ⟨v, v', rfl, p, p'⟩ := pl.two
      rw [p.int, p'.int] at r
      exact call_min2 hc pins s' σ H _ us Q I r ⟨_, _, rfl, postV S w.of_pure Rp.int rfl⟩
    · obtain ⟨v, rfl, p⟩ := pl.one
      rename_i x
      split at w
      · rename_i n ns e
        have w := w.of_pure
        cases x with
        | list ds =>
          obtain ⟨a, xs, e1, hx, rr⟩ := p.list
          subst e1
          have e2 := ints_of rr (by simpa [itemsOf] using e)
          subst e2
          refine cr_min hc pins s' σ H _ us Q I r ⟨a, n :: ns, rfl, .inl (.inl hx), by simp, fun m hm hb => ?_⟩
          rw [minI_is hm hb]
          exact postV S w Rp.int rfl
        | tuple ds =>
          obtain ⟨a, xs, e1, hx, rr⟩ := p.tuple
          subst e1
          have e2 := ints_of rr (by simpa [itemsOf] using e)
          subst e2
          exact cr_minT hc hu pins s' σ H _ us Q I r ⟨a, n, ns, rfl, by rw [hK]; exact hx, postV S w Rp.int rfl⟩
        | _ => simp [itemsOf] at e
      · exact w.of_fail.elim
    · exact w.of_fail.elim
  rw [if_neg h5] at w
  by_cases h6 : f = ("int" : Str)
  · subst h6
    rw [if_pos rfl] at w
    cases (PyProof.Rows.boot_int.symm.trans hv)
    split at w
    · obtain ⟨v, rfl, p⟩ := pl.one
      rw [p.int] at r
      exact call_int1 pins s' σ H _ us Q I r (.inl ⟨_, rfl, postV S w.of_pure Rp.int rfl⟩)
    · obtain ⟨v, rfl, p⟩ := pl.one
      rw [p.bool] at r
      exact call_int1 pins s' σ H _ us Q I r (.inr ⟨_, rfl, postV S w.of_pure Rp.int rfl⟩)
    · exact w.of_fail.elim
  rw [if_neg h6] at w
  by_cases h7 : f = ("list" : Str)
  · subst h7
    rw [if_pos rfl] at w
    cases (PyProof.Rows.boot_list.symm.trans hv)
    split at w
    · obtain ⟨v, rfl, p⟩ := pl.one
      obtain ⟨a, xs, e, hx, rr⟩ := p.list
      subst e
      exact call_list_of pins s' σ H _ us Q I r ⟨a, xs, rfl, .inl (.inl (.inl hx)), fun p np => S.newL _ rr w.of_pure np⟩
    · obtain ⟨v, rfl, p⟩ := pl.one
      obtain ⟨a, xs, e, hx, rr⟩ := p.tuple
      subst e
      exact call_list_of pins s' σ H _ us Q I r ⟨a, xs, rfl, .inr (by rw [hK]; exact hx), fun p np => S.newL _ rr w.of_pure np⟩
    · exact w.of_fail.elim
  rw [if_neg h7] at w
  by_cases h8 : f = ("tuple" : Str)
  · subst h8
    rw [if_pos rfl] at w
    cases (PyProof.Rows.boot_tuple.symm.trans hv)
    split at w
    · obtain ⟨v, rfl, p⟩ := pl.one
      obtain ⟨a, xs, e, hx, rr⟩ := p.list
      subst e
      exact call_tuple_of pins s' σ H _ us Q I r ⟨a, xs, rfl, .inl ⟨.inl (.inl hx), fun p np => S.newT _ rr w.of_pure rfl np⟩⟩
    · obtain ⟨v, rfl, p⟩ := pl.one
      have w := w.of_pure
      rcases p with p | ⟨_, e⟩
      · obtain ⟨a, xs, e, hx, rr⟩ := Pk.tuple (.inl p)
        subst e
        exact call_tuple_of pins s' σ H _ us Q I r ⟨a, xs, rfl, .inr ⟨by rw [hK]; exact hx, postV S w p rfl⟩⟩
      · cases e.soft
    · exact w.of_fail.elim
  rw [if_neg h8] at w
  by_cases h9 : f = ("all" : Str)
  · subst h9
    rw [if_pos rfl] at w
    cases ((show bootBuiltins "all" = some (.builtin "all") by decide +kernel).symm.trans hv)
    split at w
    · obtain ⟨v, rfl, p⟩ := pl.one
      obtain ⟨a, xs, e, hx, rr⟩ := p.list
      subst e
      split at w
      · rename_i bs eb
        have e2 := bools_of rr eb
        subst e2
        exact cr_all hc pins s' σ H _ us Q I r ⟨a, bs, rfl, .inl (.inl hx), postV S w.of_pure Rp.bool rfl⟩
      · exact w.of_fail.elim
    · exact w.of_fail.elim
  rw [if_neg h9] at w
  by_cases h10 : f = ("any" : Str)
  · subst h10
    rw [if_pos rfl] at w
    cases ((show bootBuiltins "any" = some (.builtin "any") by decide +kernel).symm.trans hv)
    split at w
    · obtain ⟨v, rfl, p⟩ := pl.one
      obtain ⟨a, xs, e, hx, rr⟩ := p.list
      subst e
      split at w
      · rename_i bs eb
        have e2 := bools_of rr eb
        subst e2
        exact cr_any hc pins s' σ H _ us Q I r ⟨a, bs, rfl, .inl (.inl hx), postV S w.of_pure Rp.bool rfl⟩
      · exact w.of_fail.elim
    · exact w.of_fail.elim
  rw [if_neg h10] at w
  by_cases h11 : f = ("sorted" : Str)
  · subst h11
    rw [if_pos rfl] at w
    cases ((show bootBuiltins "sorted" = some (.builtin "sorted") by decide +kernel).symm.trans hv)
    split at w
    · obtain ⟨v, rfl, p⟩ := pl.one
      obtain ⟨a, xs, e, hx, rr⟩ := p.list
      subst e
      split at w
      · rename_i ns eb
        have e2 := ints_of rr eb
        subst e2
        refine cr_sortedI pins s' σ H _ us Q I r ⟨a, ns, rfl, .inl (.inl hx), fun ns' p hp hs np => ?_⟩
        rw [← sortI_is hp hs]
        exact S.newL _ (RpL.ints _) w.of_pure np
      · obtain ⟨h1, h2, h3, h4⟩ := srtOk_ok w.of_guard.1
        have w := w.of_guard.2.of_pure
        have hd := RpL.dp _ _ h3 rr
        rw [← hK] at hd
        exact cr_sortedD pins s' σ H _ us Q I r ⟨a, xs, _, rfl, .inl (.inl (.inl hx)), hd, h1, h2, fun d hd => by have := h4 d hd; omega, fun p np => S.newL _ (srt_rep rr) w np⟩
    · obtain ⟨v, rfl, p⟩ := pl.one
      obtain ⟨a, xs, e, hx, rr⟩ := p.tuple
      subst e
      obtain ⟨h1, h2, h3, h4⟩ := srtOk_ok w.of_guard.1
      have w := w.of_guard.2.of_pure
      have hd := RpL.dp _ _ h3 rr
      rw [← hK] at hd
      exact cr_sortedD pins s' σ H _ us Q I r ⟨a, xs, _, rfl, .inr (by rw [hK]; exact hx), hd, h1, h2, fun d hd => by have := h4 d hd; omega, fun p np => S.newL _ (srt_rep rr) w np⟩
    · exact w.of_fail.elim
  rw [if_neg h11] at w
  exact w.of_fail.elim
end
end Py

set_option Elab.async false
set_option linter.all false
set_option maxRecDepth 100000
set_option maxHeartbeats 1000000
namespace Py
open PySem PySem.Spec PyProof.Rows L2

/-- every expression's reading, where rec is the interpreter -/
def Snd (U : Wd) (k : Nat) (G : Gs) (rec : Cxt → St → Expr → M D) : Prop :=
  ∀ Γ X W, Good U k Γ X W → ∀ e, (∀ m, PE X e (tOf U W (fun σ => rec Γ σ e) (freshE G m e))) ∧ PT X e (tOfT U W (fun σ => tst (rec Γ σ) e))
def PostXE (U : Wd) (E : XK) (H : Hp) (x : Exc) (s' : DS) : Prop := ∀ cls od H', Ext U H H' → Cap U H' s' → XRep U H' x cls od → E cls od H'
/-- what a def promises -/
def spF (U : Wd) (call : Str → List D → M D) (fg : Flg) (x : Str) (n : Nat) : Sp := fun vs H Q E => vs.length = n ∧ ∃ ow s ds, Hk U ow H s ∧ ow U.cell = none ∧ RpL U ow H ds vs ∧
  Wp (call x ds) s (PostE U ow (fun d => fg.fr && isL d) H Q) (PostXE U E H)
/-- the defs are there, up to a level -/
structure FnsOk (U : Wd) (k : Nat) (G : Gs) : Prop where
  fns : ∀ x fg, G.fns x = some fg → ∃ f fd ps, U.mg x = some (.ref f) ∧ PySem.W.keepIn U.K (.ref f) = true ∧ Binds U.K fd ps [] ∧ FnOk U.P U.w U.K U.mg U.base (L2.CX U.P U.w) k f fd ps (spF U G.call fg x ps.length) ∧ ∀ ds s, ds.length ≠ ps.length → G.call x ds s = .fail

section
variable {U : Wd} {k : Nat} {Γ : Cxt} {X : Cx} {W : WX} {G : Gs} {ow : Ow} {H : Hp} {s : DS}
theorem tOf.weak {f : St → M D} {fr fr' : D → Bool} {σ : L2.St} {Q : VK} (hf : ∀ d, fr' d = true → fr d = true) (h : tOf U W f fr' σ H Q) : tOf U W f fr σ H Q := by
  obtain ⟨H0, ow0, ow, σd, s, S, w⟩ := h
  exact ⟨H0, ow0, ow, σd, s, S, w.mono (fun d s' p v H' e c r rf => p v H' e c r fun z => rf (hf d z)) fun _ _ h => h⟩
theorem PE.weak {e : Expr} {f : St → M D} {fr fr' : D → Bool} (h : PE X e (tOf U W f fr)) (hf : ∀ d, fr' d = true → fr d = true) : PE X e (tOf U W f fr') := PE.imp h fun σ H Q q => tOf.weak hf q
theorem PostX.ext {σ : L2.St} {H' : Hp} {x : Exc} {s' : DS} (h : PostX U W σ H x s') (e : Ext U H H') : PostX U W σ H' x s' := fun cls od H'' e' => h cls od H'' (e.trans e')
theorem PostE.ext {fr : D → Bool} {H' : Hp} {Q : VK} {d : D} {s' : DS} (h : PostE U ow fr H Q d s') (e : Ext U H H') : PostE U ow fr H' Q d s' := fun v H'' e' c r rf => h v H'' (e.trans e') c r fun z => by
  obtain ⟨a, u, e2, h1, h2, h3, h4⟩ := rf z
  exact ⟨a, u, e2, e.none h3 h1, h2, h3, h4⟩
theorem Good.hu (g : Good U k Γ X W) : X.A.units + 65 < cLine := by have := g.room.un; omega
/-- a step of two parts -/
theorem tOfP.step {f : St → M D} {β : Type} {kk : D → M β} {σ : L2.St} {H0 : Hp} {ow0 : Ow} {σd : St} (S : SR U H0 ow0 ow σ H σd s) {Qb : β → DS → Prop} (w : Wp (f σd >>= kk) s Qb (PostX U W σ H)) {R : VK}
    (h : ∀ d v H1 s1, Ext U H H1 → SR U H0 ow0 ow σ H1 σd s1 → Pk U ow H1 d v → Wp (kk d) s1 Qb (PostX U W σ H) → R v H1) : tOfP U W f σ H R :=
  ⟨H0, ow0, ow, σd, s, S, w.of_bind.mono (fun d s1 h1 v H1 e c p => h d v H1 s1 e (S.ext e c) p h1) fun _ _ h => h⟩
theorem tOf.step {f : St → M D} {β : Type} {kk : D → M β} {σ : L2.St} {H0 : Hp} {ow0 : Ow} {σd : St} (fr : D → Bool) (S : SR U H0 ow0 ow σ H σd s) {Qb : β → DS → Prop} (w : Wp (f σd >>= kk) s Qb (PostX U W σ H)) {R : VK}
    (h : ∀ d v H1 s1, Ext U H H1 → SR U H0 ow0 ow σ H1 σd s1 → Rp U ow H1 d v → Wp (kk d) s1 Qb (PostX U W σ H) → R v H1) : tOf U W f fr σ H R :=
  ⟨H0, ow0, ow, σd, s, S, w.of_bind.mono (fun d s1 h1 v H1 e c p _ => h d v H1 s1 e (S.ext e c) p h1) fun _ _ h => h⟩
theorem tOfT.step {f : St → M Bool} {β : Type} {kk : Bool → M β} {σ : L2.St} {H0 : Hp} {ow0 : Ow} {σd : St} (S : SR U H0 ow0 ow σ H σd s) {Qb : β → DS → Prop} (w : Wp (f σd >>= kk) s Qb (PostX U W σ H)) {R : Bool → Hp → Prop}
    (h : ∀ d H1 s1, Ext U H H1 → SR U H0 ow0 ow σ H1 σd s1 → Wp (kk d) s1 Qb (PostX U W σ H) → R d H1) : tOfT U W f σ H R :=
  ⟨H0, ow0, ow, σd, s, S, w.of_bind.mono (fun d s1 h1 H1 e c => h d H1 s1 e (S.ext e c) h1) fun _ _ h => h⟩
theorem Wp.at {α : Type} {m : M α} {Q Q' : α → DS → Prop} {E E' : Exc → DS → Prop} (h : Wp m s Q E) (hq : ∀ a s', Q a s' → Q' a s') (he : ∀ x s', E x s' → E' x s') : Wp m s Q' E' := h.mono hq he

theorem pe_bin2 (g : Good U k Γ X W) {a b : Expr} {op : Operator} {pos : Pos} {fa fb : St → M D} (ha : PE X a (tOfP U W fa)) (hb : PE X b (tOfP U W fb)) :
    PE X (.BinOp a op b pos) (tOf U W (fun σ => do let x ← fa σ; let y ← fb σ; binop op x y) isL) := by
  refine PE.imp (pe_op (or_bin g.K op) ha hb) fun σ H Q h => ?_
  obtain ⟨H0, ow0, ow, σd, s, S, w⟩ := h
  refine tOfP.step S w fun d1 v1 H1 s1 e1 S1 p1 w1 => ?_
  refine tOfP.step S1 (w1.mono (fun d s' (q : PostE U ow isL H Q d s') => q.ext e1) fun x s' (q : PostX U W σ H x s') => q.ext e1) fun d2 v2 H2 s2 e2 S2 p2 w2 => ?_
  exact ⟨ow, s2, d1, d2, S2.hk, p1.ext e2, p2, w2.mono (fun d s' (q : PostE U ow isL H1 Q d s') => q.ext e2) fun _ _ _ => trivial⟩
theorem pe_neg2 (g : Good U k Γ X W) {a : Expr} {pos : Pos} {fa : St → M D} {fr : D → Bool} (ha : PE X a (tOf U W fa fr)) :
    PE X (.UnaryOp .USub a pos) (tOf U W (fun σ => do let x ← fa σ; let i ← asInt x; pure (.int (-i))) fun _ => false) := by
  refine PE.imp (pe_un un_neg ha) fun σ H Q h => ?_
  obtain ⟨H0, ow0, ow, σd, s, S, w⟩ := h
  refine tOf.step fr S w fun d1 v1 H1 s1 e1 S1 p1 w1 => ?_
  have w1 := w1.of_bind
  unfold asInt at w1
  split at w1
  · have q := w1.of_pure.of_pure
    unfold Rp at p1
    exact ⟨_, p1, postV S1.hk (PostE.ext q e1) Rp.int rfl⟩
  · exact w1.of_fail.elim
theorem Rp.of_bool {b : Bool} {v : V} (h : Rp U ow H (.bool b) v) : v = .bl b := by unfold Rp at h; exact h
theorem asBool_wp {d : D} {Q : Bool → DS → Prop} {E : Exc → DS → Prop} (w : Wp (asBool d) s Q E) : ∃ b, d = .bool b ∧ Q b s := by
  unfold asBool at w
  split at w
  · exact ⟨_, rfl, w.of_pure⟩
  · exact w.of_fail.elim
theorem tst_wp {f : Expr → M D} {e : Expr} {Q : Bool → DS → Prop} {E : Exc → DS → Prop} (w : Wp (tst f e) s Q E) : noIf e = true ∧ Wp (f e) s (fun d s' => ∃ b, d = .bool b ∧ Q b s') E := by
  unfold tst at w
  obtain ⟨h, w⟩ := w.of_guard
  exact ⟨h, w.of_bind.mono (fun d s' h => asBool_wp h) fun _ _ h => h⟩
/-- a test read as a value -/
theorem tOf.asB {f : St → Expr → M D} {e : Expr} {fr : D → Bool} {σ : L2.St} {R : Bool → Hp → Prop} (h : tOfT U W (fun σ => tst (f σ) e) σ H R) : tOf U W (fun σ => f σ e) fr σ H (fun x H1 => ∃ c, x = .bl c ∧ R c H1) := by
  obtain ⟨H0, ow0, ow, σd, s, S, w⟩ := h
  obtain ⟨_, w⟩ := tst_wp w
  exact ⟨H0, ow0, ow, σd, s, S, w.mono (fun d s' ⟨b, hd, q⟩ v H' e c r _ => by subst hd; exact ⟨b, r.of_bool, q H' e c⟩) fun _ _ h => h⟩
theorem pe_not2 (g : Good U k Γ X W) {a : Expr} {pos : Pos} {f : St → Expr → M D} {fr : D → Bool} (ha : PE X a (tOf U W (fun σ => f σ a) fr)) :
    PE X (.UnaryOp .Not a pos) (tOf U W (fun σ => do let b ← tst (f σ) a; pure (.bool (!b))) fun _ => false) := by
  refine PE.imp (pe_not ha) fun σ H Q h => ?_
  obtain ⟨H0, ow0, ow, σd, s, S, w⟩ := h
  refine tOf.asB (R := fun c H1 => Q (.bl (!c)) H1) ?_
  exact tOfT.step S w fun b H1 s1 e1 S1 w1 => postV S1.hk (PostE.ext w1.of_pure e1) Rp.bool rfl
theorem pt_not2 (g : Good U k Γ X W) {a : Expr} {pos : Pos} {f : St → Expr → M D} (ha : PT X a (tOfT U W (fun σ => tst (f σ) a))) {F : St → Expr → M D} (hF : ∀ σ, F σ (.UnaryOp .Not a pos) = (do let b ← tst (f σ) a; pure (.bool (!b)))) :
    PT X (.UnaryOp .Not a pos) (tOfT U W (fun σ => tst (F σ) (.UnaryOp .Not a pos))) := by
  refine PT.imp (pt_not ha) fun σ H Q h => ?_
  obtain ⟨H0, ow0, ow, σd, s, S, w⟩ := h
  obtain ⟨_, w⟩ := tst_wp w
  rw [hF] at w
  refine tOfT.step S w fun b H1 s1 e1 S1 w1 => ?_
  obtain ⟨b', e, q⟩ := w1.of_pure
  cases e
  exact q H1 e1 S1.cap
/-- a test that is no if, no and .. -/
theorem pt_val2 {e : Expr} {f : St → Expr → M D} {fr : D → Bool} (he : PE X e (tOf U W (fun σ => f σ e) fr)) (hi : ∀ whole, isTrue e X.env whole = (do let v ← whole; standAt e.pos; holding [v] (truthy v))) : PT X e (tOfT U W (fun σ => tst (f σ) e)) :=
  PT.imp (pt_val he hi) fun σ H Q h => tOf.asB h
/-! and, or -/
theorem pe_andL (g : Good U k Γ X W) {f : St → Expr → M D} (ha : ∀ e, PE X e (tOf U W (fun σ => f σ e) fun _ => false)) {pos : Pos} : ∀ es : List Expr, es ≠ [] → PE X (.BoolOp .And es pos) (tOf U W (fun σ => andL (f σ) es) fun _ => false)
  | [], h => absurd rfl h
  | [e], _ => PE.imp (pe_one (ha e)) fun σ H Q h => by
    obtain ⟨H0, ow0, ow, σd, s, S, w⟩ := h
    have w : Wp (andL (f σd) [e]) s _ _ := w
    unfold andL at w
    exact ⟨H0, ow0, ow, σd, s, S, w.of_guard.2⟩
  | e :: e' :: es, _ => PE.imp (pe_and (ha e) (pe_andL g ha (e' :: es) (by simp))) fun σ H Q h => by
    obtain ⟨H0, ow0, ow, σd, s, S, w⟩ := h
    have w : Wp (andL (f σd) (e :: e' :: es)) s _ _ := w
    unfold andL at w
    refine tOf.asB (R := fun c H1 => if c = true then tOf U W (fun σ => andL (f σ) (e' :: es)) (fun _ => false) σ H1 Q else Q (.bl false) H1) (tOfT.step S w fun b H1 s1 e1 S1 w1 => ?_)
    cases b with
    | true => exact ⟨H0, ow0, ow, σd, s1, S1, w1.mono (fun d s' (q : PostE U ow _ H Q d s') => q.ext e1) fun x s' (q : PostX U W σ H x s') => q.ext e1⟩
    | false => exact postV S1.hk (PostE.ext w1.of_pure e1) Rp.bool rfl
theorem pe_orL (g : Good U k Γ X W) {f : St → Expr → M D} (ha : ∀ e, PE X e (tOf U W (fun σ => f σ e) fun _ => false)) {pos : Pos} : ∀ es : List Expr, es ≠ [] → PE X (.BoolOp .Or es pos) (tOf U W (fun σ => orL (f σ) es) fun _ => false)
  | [], h => absurd rfl h
  | [e], _ => PE.imp (pe_one (ha e)) fun σ H Q h => by
    obtain ⟨H0, ow0, ow, σd, s, S, w⟩ := h
    have w : Wp (orL (f σd) [e]) s _ _ := w
    unfold orL at w
    exact ⟨H0, ow0, ow, σd, s, S, w.of_guard.2⟩
  | e :: e' :: es, _ => PE.imp (pe_or (ha e) (pe_orL g ha (e' :: es) (by simp))) fun σ H Q h => by
    obtain ⟨H0, ow0, ow, σd, s, S, w⟩ := h
    have w : Wp (orL (f σd) (e :: e' :: es)) s _ _ := w
    unfold orL at w
    refine tOf.asB (R := fun c H1 => if c = true then Q (.bl true) H1 else tOf U W (fun σ => orL (f σ) (e' :: es)) (fun _ => false) σ H1 Q) (tOfT.step S w fun b H1 s1 e1 S1 w1 => ?_)
    cases b with
    | false => exact ⟨H0, ow0, ow, σd, s1, S1, w1.mono (fun d s' (q : PostE U ow _ H Q d s') => q.ext e1) fun x s' (q : PostX U W σ H x s') => q.ext e1⟩
    | true => exact postV S1.hk (PostE.ext w1.of_pure e1) Rp.bool rfl
/-- the same as tests -/
def tOfL (U : Wd) (W : WX) (f : St → M D) : TT := fun σ H Q => ∃ H0 ow0 ow σd s, SR U H0 ow0 ow σ H σd s ∧ Wp (f σd) s (fun d s' => ∃ b, d = .bool b ∧ ∀ H', Ext U H H' → Cap U H' s' → Q b H') (PostX U W σ H)
theorem tOfL.tst {f : St → Expr → M D} {e : Expr} {σ : L2.St} {Q : Bool → Hp → Prop} (hn : noIf e = true) (h : tOfL U W (fun σ => f σ e) σ H Q) : tOfT U W (fun σ => Py.tst (f σ) e) σ H Q := by
  obtain ⟨H0, ow0, ow, σd, s, S, w⟩ := h
  refine ⟨H0, ow0, ow, σd, s, S, ?_⟩
  show Wp (Py.tst (f σd) e) s _ _
  unfold Py.tst
  rw [if_pos hn]
  rw [Wp.bind_iff]
  exact w.mono (fun d s' ⟨b, hd, q⟩ => by subst hd; exact q) fun _ _ h => h
theorem pw_andL (g : Good U k Γ X W) {f : St → Expr → M D} (ha : ∀ e, PT X e (tOfT U W (fun σ => tst (f σ) e))) {pos : Pos} : ∀ es : List Expr, es ≠ [] → PW X (.BoolOp .And es pos) (tOfL U W (fun σ => andL (f σ) es))
  | [], h => absurd rfl h
  | [e], _ => PW.imp (pw_and1 (ha e)) fun σ H Q h => by
    obtain ⟨H0, ow0, ow, σd, s, S, w⟩ := h
    have w : Wp (andL (f σd) [e]) s _ _ := w
    unfold andL at w
    exact tOfL.tst w.of_guard.1 ⟨H0, ow0, ow, σd, s, S, w.of_guard.2⟩
  | e :: e' :: es, _ => PW.imp (pw_and (ha e) (pw_andL g ha (e' :: es) (by simp))) fun σ H Q h => by
    obtain ⟨H0, ow0, ow, σd, s, S, w⟩ := h
    have w : Wp (andL (f σd) (e :: e' :: es)) s _ _ := w
    unfold andL at w
    refine tOfT.step S w fun b H1 s1 e1 S1 w1 => ?_
    cases b with
    | true => exact ⟨H0, ow0, ow, σd, s1, S1, w1.mono (fun d s' ⟨b, hd, q⟩ => ⟨b, hd, fun H' e' => q H' (e1.trans e')⟩) fun x s' (q : PostX U W σ H x s') => q.ext e1⟩
    | false =>
      obtain ⟨b, hd, q⟩ := w1.of_pure
      cases hd
      exact q H1 e1 S1.cap
theorem pw_orL (g : Good U k Γ X W) {f : St → Expr → M D} (ha : ∀ e, PT X e (tOfT U W (fun σ => tst (f σ) e))) {pos : Pos} : ∀ es : List Expr, es ≠ [] → PW X (.BoolOp .Or es pos) (tOfL U W (fun σ => orL (f σ) es))
  | [], h => absurd rfl h
  | [e], _ => PW.imp (pw_or1 (ha e)) fun σ H Q h => by
    obtain ⟨H0, ow0, ow, σd, s, S, w⟩ := h
    have w : Wp (orL (f σd) [e]) s _ _ := w
    unfold orL at w
    exact tOfL.tst w.of_guard.1 ⟨H0, ow0, ow, σd, s, S, w.of_guard.2⟩
  | e :: e' :: es, _ => PW.imp (pw_or (ha e) (pw_orL g ha (e' :: es) (by simp))) fun σ H Q h => by
    obtain ⟨H0, ow0, ow, σd, s, S, w⟩ := h
    have w : Wp (orL (f σd) (e :: e' :: es)) s _ _ := w
    unfold orL at w
    refine tOfT.step S w fun b H1 s1 e1 S1 w1 => ?_
    cases b with
    | false => exact ⟨H0, ow0, ow, σd, s1, S1, w1.mono (fun d s' ⟨b, hd, q⟩ => ⟨b, hd, fun H' e' => q H' (e1.trans e')⟩) fun x s' (q : PostX U W σ H x s') => q.ext e1⟩
    | true =>
      obtain ⟨b, hd, q⟩ := w1.of_pure
      cases hd
      exact q H1 e1 S1.cap
/-! comparisons -/
theorem cmp_q {op : CmpOp} {dx dy : D} {x y : V} {Q : Bool → Hp → Prop} {E : Exc → DS → Prop} (hk : Hk U ow H s) (px : Pk U ow H dx x) (py : Pk U ow H dy y) (w : Wp (cmpop op dx dy) s (fun b s' => Q b H) E) : rCmp U op x y H (fun z H' => ∃ b, z = .bl b ∧ Q b H') :=
  ⟨ow, s, dx, dy, hk, px, py, w.mono (fun b _ q => ⟨b, rfl, q⟩) fun _ _ _ => trivial⟩
theorem cmpop_s {op : CmpOp} {dx dy : D} {Q : Bool → DS → Prop} {E : Exc → DS → Prop} (w : Wp (cmpop op dx dy) s Q E) : Wp (cmpop op dx dy) s (fun b s' => s' = s ∧ Q b s) E := by
  have key : ∀ x y, (eqD x y s = .fail ∨ ∃ b, eqD x y s = .ok b s) := fun x y => by
    unfold eqD
    split
    · exact .inr ⟨_, rfl⟩
    · exact .inl rfl
  have key2 : ∀ x y, (inD x y s = .fail ∨ ∃ b, inD x y s = .ok b s) := fun x y => by
    unfold inD
    split <;> (try split) <;> first | exact .inr ⟨_, rfl⟩ | exact .inl rfl
  have key3 : cmpop op dx dy s = .fail ∨ ∃ b, cmpop op dx dy s = .ok b s := by
    unfold cmpop
    split
    · exact key _ _
    · rcases key dx dy with h | ⟨b, h⟩
      · exact .inl (by show M.bind (eqD dx dy) _ s = _; unfold M.bind; rw [h])
      · exact .inr ⟨!b, by show M.bind (eqD dx dy) _ s = _; unfold M.bind; rw [h]; rfl⟩
    · exact .inr ⟨_, rfl⟩
    · split
      · exact .inr ⟨_, rfl⟩
      · exact .inl rfl
    · exact .inr ⟨_, rfl⟩
    · exact .inr ⟨_, rfl⟩
    · exact .inr ⟨_, rfl⟩
    · split <;> exact .inr ⟨_, rfl⟩
    · split <;> exact .inr ⟨_, rfl⟩
    · exact .inr ⟨_, rfl⟩
    · exact .inr ⟨_, rfl⟩
    · exact key2 _ _
    · rename_i x y
      rcases key2 dx dy with h | ⟨b, h⟩
      · exact .inl (by show M.bind (inD dx dy) _ s = _; unfold M.bind; rw [h])
      · exact .inr ⟨!b, by show M.bind (inD dx dy) _ s = _; unfold M.bind; rw [h]; rfl⟩
    · exact .inl rfl
  unfold Wp at w ⊢
  rcases key3 with h | ⟨b, h⟩
  · rw [h] at w; exact w.elim
  · rw [h] at w ⊢; exact ⟨rfl, w⟩
theorem pc_1 (g : Good U k Γ X W) {fa fb : St → M D} {a b : Expr} {op : CmpOp} {pos : Pos} (ha : PE X a (tOfP U W fa)) (hb : PE X b (tOfP U W fb)) (hm : behindInMarks op b = false) :
    PE X (.Compare a [op] [b] pos) (tOf U W (fun σ => cmp1 (fa σ) (fb σ) op) fun _ => false) ∧ PT X (.Compare a [op] [b] pos) (tOfL U W (fun σ => cmp1 (fa σ) (fb σ) op)) := by
  constructor
  · refine PE.imp (pe_cmpR (or_cmp g.K g.w g.hu op) ha hb hm) fun σ H Q h => ?_
    obtain ⟨H0, ow0, ow, σd, s, S, w⟩ := h
    refine tOfP.step S w fun d1 v1 H1 s1 e1 S1 p1 w1 => ?_
    refine tOfP.step S1 (w1.mono (fun d s' (q : PostE U ow _ H Q d s') => q.ext e1) fun x s' (q : PostX U W σ H x s') => q.ext e1) fun d2 v2 H2 s2 e2 S2 p2 w2 => ?_
    refine ⟨ow, s2, d1, d2, S2.hk, p1.ext e2, p2, (cmpop_s w2.of_bind).mono (fun b s' ⟨hs, q⟩ => ?_) fun _ _ _ => trivial⟩
    exact postV S2.hk (PostE.ext q.of_pure e2) Rp.bool rfl
  · refine PT.imp (pt_cmpR (or_cmp g.K g.w g.hu op) ha hb hm) fun σ H Q h => ?_
    obtain ⟨H0, ow0, ow, σd, s, S, w⟩ := h
    show tOfP U W fa σ H _
    refine tOfP.step S w fun d1 v1 H1 s1 e1 S1 p1 w1 => ?_
    refine tOfP.step S1 (w1.mono (fun d s' q => q) fun x s' (q : PostX U W σ H x s') => q.ext e1) fun d2 v2 H2 s2 e2 S2 p2 w2 => ?_
    refine cmp_q S2.hk (p1.ext e2) p2 ((cmpop_s w2.of_bind).mono (fun b s' ⟨hs, q⟩ => ?_) fun _ _ h => h)
    obtain ⟨b', hd, q⟩ := q.of_pure
    cases hd
    exact q H2 (e1.trans e2) S2.cap
theorem pc_2 (g : Good U k Γ X W) {fa fb fc : St → M D} {a b c : Expr} {op op' : CmpOp} {pos : Pos} (ha : PE X a (tOfP U W fa)) (hb : PE X b (tOfP U W fb)) (hc : PE X c (tOfP U W fc)) (hm : lastMarks [op, op'] [b, c] = false) :
    PE X (.Compare a [op, op'] [b, c] pos) (tOf U W (fun σ => cmp2 (fa σ) (fb σ) (fc σ) op op') fun _ => false) ∧ PT X (.Compare a [op, op'] [b, c] pos) (tOfL U W (fun σ => cmp2 (fa σ) (fb σ) (fc σ) op op')) := by
  constructor
  · refine PE.imp (pe_chain (or_cmp g.K g.w g.hu op) (or_cmp g.K g.w g.hu op') ha hb hc hm) fun σ H Q h => ?_
    obtain ⟨H0, ow0, ow, σd, s, S, w⟩ := h
    refine tOfP.step S w fun d1 v1 H1 s1 e1 S1 p1 w1 => ?_
    refine tOfP.step S1 (w1.mono (fun d s' (q : PostE U ow _ H Q d s') => q.ext e1) fun x s' (q : PostX U W σ H x s') => q.ext e1) fun d2 v2 H2 s2 e2 S2 p2 w2 => ?_
    refine ⟨ow, s2, d1, d2, S2.hk, p1.ext e2, p2, (cmpop_s w2.of_bind).mono (fun b s' ⟨hs, q⟩ => ⟨b, rfl, ?_⟩) fun _ _ _ => trivial⟩
    cases b with
    | false =>
      rw [if_neg (by decide)] at q ⊢
      exact postV S2.hk (PostE.ext q.of_pure e2) Rp.bool rfl
    | true =>
      rw [if_pos rfl] at q ⊢
      refine tOfP.step S2 (q.mono (fun d s' (q : PostE U ow _ H1 Q d s') => q.ext e2) fun x s' (q : PostX U W σ H1 x s') => q.ext e2) fun d3 v3 H3 s3 e3 S3 p3 w3 => ?_
      refine ⟨ow, s3, d2, d3, S3.hk, p2.ext e3, p3, (cmpop_s w3.of_bind).mono (fun b s' ⟨hs, q⟩ => ?_) fun _ _ _ => trivial⟩
      exact postV S3.hk (PostE.ext q.of_pure e3) Rp.bool rfl
  · refine PT.imp (pt_chain (or_cmp g.K g.w g.hu op) (or_cmp g.K g.w g.hu op') ha hb hc hm) fun σ H Q h => ?_
    obtain ⟨H0, ow0, ow, σd, s, S, w⟩ := h
    show tOfP U W fa σ H _
    refine tOfP.step S w fun d1 v1 H1 s1 e1 S1 p1 w1 => ?_
    refine tOfP.step S1 (w1.mono (fun d s' q => q) fun x s' (q : PostX U W σ H x s') => q.ext e1) fun d2 v2 H2 s2 e2 S2 p2 w2 => ?_
    refine ⟨ow, s2, d1, d2, S2.hk, p1.ext e2, p2, (cmpop_s w2.of_bind).mono (fun b s' ⟨hs, q⟩ => ⟨b, rfl, ?_⟩) fun _ _ _ => trivial⟩
    cases b with
    | false =>
      rw [if_neg (by decide)] at q ⊢
      obtain ⟨b', hd, q⟩ := q.of_pure
      cases hd
      exact ⟨_, rfl, q H2 (e1.trans e2) S2.cap⟩
    | true =>
      rw [if_pos rfl] at q ⊢
      refine tOfP.step S2 (q.mono (fun d s' q => q) fun x s' (q : PostX U W σ H1 x s') => q.ext e2) fun d3 v3 H3 s3 e3 S3 p3 w3 => ?_
      refine cmp_q S3.hk (p2.ext e3) p3 ((cmpop_s w3.of_bind).mono (fun b s' ⟨hs, q⟩ => ?_) fun _ _ h => h)
      obtain ⟨b', hd, q⟩ := q.of_pure
      cases hd
      exact q H3 ((e1.trans e2).trans e3) S3.cap
section
variable {X : Cx} {a b c d : Expr} {ta tb tc td : TE} {pos : Pos}
/-- a op b op' c op2 d -/
def tChain3 (r r' r2 : R2) (ta tb tc td : TE) : TE := fun σ H Q => ta σ H fun x H1 => tb σ H1 fun y H2 => r x y H2 fun z H3 => ∃ k, z = .bl k ∧
  (if k = true then tc σ H3 fun x2 H4 => r' y x2 H4 fun z2 H5 => ∃ k2, z2 = .bl k2 ∧ (if k2 = true then td σ H5 fun x3 H6 => r2 x2 x3 H6 Q else Q (.bl false) H5) else Q (.bl false) H3)
theorem pe_chain3 {op op' op2 : CmpOp} {r r' r2 : R2} (h1 : OpR X (compareOp op) r) (h2 : OpR X (compareOp op') r') (h3 : OpR X (compareOp op2) r2) (ha : PE X a ta) (hb : PE X b tb) (hc : PE X c tc) (hd : PE X d td)
    (hm : lastMarks [op, op', op2] [b, c, d] = false) : PE X (.Compare a [op, op', op2] [b, c, d] pos) (tChain3 r r' r2 ta tb tc td) := by
  refine ⟨fun pins st sl Hh QQ II hh => ?_⟩
  refine Compare_chain (thn (ha.run pins st sl Hh _ II hh) fun v st1 ⟨x, G1, I1, q1, w1⟩ => chain_link (thn (hb.run pins st1 sl G1 _ I1 w1) fun u st2 ⟨y, G2, I2, q2, w2⟩ =>
    thn (h1 pins st2 sl G2 x y v u _ I2 q1 q2 w2) fun dv st3 ⟨z, G3, I3, q3, k, ek, w3⟩ => ?_)) hm
  subst ek
  cases q3
  refine wpAny_truthy_bool ?_
  cases k with
  | false => exact ite_ff ⟨.bl false, G3, I3, rfl, w3⟩
  | true =>
    refine ite_tt (chain_link (thn (hc.run pins st3 sl G3 _ I3 w3) fun v2 st4 ⟨x2, G4, I4, q4, w4⟩ => thn (h2 pins st4 sl G4 y x2 u v2 _ I4 q2 q4 w4) fun dv2 st5 ⟨z2, G5, I5, q5, k2, ek2, w5⟩ => ?_))
    subst ek2
    cases q5
    refine wpAny_truthy_bool ?_
    cases k2 with
    | false => exact ite_ff ⟨.bl false, G5, I5, rfl, w5⟩
    | true => exact ite_tt (chain_last (thn (hd.run pins st5 sl G5 _ I5 w5) fun v3 st6 ⟨x3, G6, I6, q6, w6⟩ => h3 pins st6 sl G6 x2 x3 v2 v3 QQ I6 q4 q6 w6))
theorem pt_chain3 {op op' op2 : CmpOp} {r r' r2 : R2} (h1 : OpR X (compareOp op) r) (h2 : OpR X (compareOp op') r') (h3 : OpR X (compareOp op2) r2) (ha : PE X a ta) (hb : PE X b tb) (hc : PE X c tc) (hd : PE X d td)
    (hm : lastMarks [op, op', op2] [b, c, d] = false) : PT X (.Compare a [op, op', op2] [b, c, d] pos) (tTest (tChain3 r r' r2 ta tb tc td)) := by
  refine ⟨fun pins st sl Hh QQ II hh => ?_⟩
  refine isTrue_chain (thn (ha.run pins st sl Hh _ II hh) fun v st1 ⟨x, G1, I1, q1, w1⟩ => test_link (thn (hb.run pins st1 sl G1 _ I1 w1) fun u st2 ⟨y, G2, I2, q2, w2⟩ =>
    thn (h1 pins st2 sl G2 x y v u _ I2 q1 q2 w2) fun dv st3 ⟨z, G3, I3, q3, k, ek, w3⟩ => ?_)) hm
  subst ek
  cases q3
  refine wpAny_truthy_bool ?_
  cases k with
  | false =>
    obtain ⟨b1, eb, g1⟩ := w3
    cases eb
    exact ite_ff ⟨G3, I3, g1⟩
  | true =>
    refine ite_tt (test_link (thn (hc.run pins st3 sl G3 _ I3 w3) fun v2 st4 ⟨x2, G4, I4, q4, w4⟩ => thn (h2 pins st4 sl G4 y x2 u v2 _ I4 q2 q4 w4) fun dv2 st5 ⟨z2, G5, I5, q5, k2, ek2, w5⟩ => ?_))
    subst ek2
    cases q5
    refine wpAny_truthy_bool ?_
    cases k2 with
    | false =>
      obtain ⟨b1, eb, g1⟩ := w5
      cases eb
      exact ite_ff ⟨G5, I5, g1⟩
    | true =>
      refine ite_tt (test_last (thn (hd.run pins st5 sl G5 _ I5 w5) fun v3 st6 ⟨x3, G6, I6, q6, w6⟩ => thn (h3 pins st6 sl G6 x2 x3 v2 v3 _ I6 q4 q6 w6) fun dv3 st7 ⟨z3, G7, I7, q7, k3, ek3, w7⟩ => ?_))
      subst ek3
      cases q7
      exact wpAny_truthy_bool ⟨G7, I7, w7⟩
end
theorem pc_3 (g : Good U k Γ X W) {fa fb fc fd : St → M D} {a b c d : Expr} {op op' op2 : CmpOp} {pos : Pos} (ha : PE X a (tOfP U W fa)) (hb : PE X b (tOfP U W fb)) (hc : PE X c (tOfP U W fc)) (hd : PE X d (tOfP U W fd)) (hm : lastMarks [op, op', op2] [b, c, d] = false) :
    PE X (.Compare a [op, op', op2] [b, c, d] pos) (tOf U W (fun σ => cmp3 (fa σ) (fb σ) (fc σ) (fd σ) op op' op2) fun _ => false) ∧ PT X (.Compare a [op, op', op2] [b, c, d] pos) (tOfL U W (fun σ => cmp3 (fa σ) (fb σ) (fc σ) (fd σ) op op' op2)) := by
  constructor
  · refine PE.imp (pe_chain3 (or_cmp g.K g.w g.hu op) (or_cmp g.K g.w g.hu op') (or_cmp g.K g.w g.hu op2) ha hb hc hd hm) fun σ H Q h => ?_
    obtain ⟨H0, ow0, ow, σd, s, S, w⟩ := h
    refine tOfP.step S w fun d1 v1 H1 s1 e1 S1 p1 w1 => ?_
    refine tOfP.step S1 (w1.mono (fun d s' (q : PostE U ow _ H Q d s') => q.ext e1) fun x s' (q : PostX U W σ H x s') => q.ext e1) fun d2 v2 H2 s2 e2 S2 p2 w2 => ?_
    refine ⟨ow, s2, d1, d2, S2.hk, p1.ext e2, p2, (cmpop_s w2.of_bind).mono (fun b s' ⟨hs, q⟩ => ⟨b, rfl, ?_⟩) fun _ _ _ => trivial⟩
    cases b with
    | false =>
      rw [if_neg (by decide)] at q ⊢
      exact postV S2.hk (PostE.ext q.of_pure e2) Rp.bool rfl
    | true =>
      rw [if_pos rfl] at q ⊢
      refine tOfP.step S2 (q.mono (fun d s' (q : PostE U ow _ H1 Q d s') => q.ext e2) fun x s' (q : PostX U W σ H1 x s') => q.ext e2) fun d3 v3 H3 s3 e3 S3 p3 w3 => ?_
      refine ⟨ow, s3, d2, d3, S3.hk, p2.ext e3, p3, (cmpop_s w3.of_bind).mono (fun b s' ⟨hs, q⟩ => ⟨b, rfl, ?_⟩) fun _ _ _ => trivial⟩
      cases b with
      | false =>
        rw [if_neg (by decide)] at q ⊢
        exact postV S3.hk (PostE.ext q.of_pure e3) Rp.bool rfl
      | true =>
        rw [if_pos rfl] at q ⊢
        refine tOfP.step S3 (q.mono (fun d s' (q : PostE U ow _ H2 Q d s') => q.ext e3) fun x s' (q : PostX U W σ H2 x s') => q.ext e3) fun d4 v4 H4 s4 e4 S4 p4 w4 => ?_
        refine ⟨ow, s4, d3, d4, S4.hk, p3.ext e4, p4, (cmpop_s w4.of_bind).mono (fun b s' ⟨hs, q⟩ => ?_) fun _ _ _ => trivial⟩
        exact postV S4.hk (PostE.ext q.of_pure e4) Rp.bool rfl
  · refine PT.imp (pt_chain3 (or_cmp g.K g.w g.hu op) (or_cmp g.K g.w g.hu op') (or_cmp g.K g.w g.hu op2) ha hb hc hd hm) fun σ H Q h => ?_
    obtain ⟨H0, ow0, ow, σd, s, S, w⟩ := h
    show tOfP U W fa σ H _
    refine tOfP.step S w fun d1 v1 H1 s1 e1 S1 p1 w1 => ?_
    refine tOfP.step S1 (w1.mono (fun d s' q => q) fun x s' (q : PostX U W σ H x s') => q.ext e1) fun d2 v2 H2 s2 e2 S2 p2 w2 => ?_
    refine ⟨ow, s2, d1, d2, S2.hk, p1.ext e2, p2, (cmpop_s w2.of_bind).mono (fun b s' ⟨hs, q⟩ => ⟨b, rfl, ?_⟩) fun _ _ _ => trivial⟩
    cases b with
    | false =>
      rw [if_neg (by decide)] at q ⊢
      obtain ⟨b', hd, q⟩ := q.of_pure
      cases hd
      exact ⟨_, rfl, q H2 (e1.trans e2) S2.cap⟩
    | true =>
      rw [if_pos rfl] at q ⊢
      refine tOfP.step S2 (q.mono (fun d s' q => q) fun x s' (q : PostX U W σ H1 x s') => q.ext e2) fun d3 v3 H3 s3 e3 S3 p3 w3 => ?_
      refine ⟨ow, s3, d2, d3, S3.hk, p2.ext e3, p3, (cmpop_s w3.of_bind).mono (fun b s' ⟨hs, q⟩ => ⟨b, rfl, ?_⟩) fun _ _ _ => trivial⟩
      cases b with
      | false =>
        rw [if_neg (by decide)] at q ⊢
        obtain ⟨b', hd, q⟩ := q.of_pure
        cases hd
        exact ⟨_, rfl, q H3 ((e1.trans e2).trans e3) S3.cap⟩
      | true =>
        rw [if_pos rfl] at q ⊢
        refine tOfP.step S3 (q.mono (fun d s' q => q) fun x s' (q : PostX U W σ H2 x s') => q.ext e3) fun d4 v4 H4 s4 e4 S4 p4 w4 => ?_
        refine cmp_q S4.hk (p3.ext e4) p4 ((cmpop_s w4.of_bind).mono (fun b s' ⟨hs, q⟩ => ?_) fun _ _ h => h)
        obtain ⟨b', hd, q⟩ := q.of_pure
        cases hd
        exact q H4 (((e1.trans e2).trans e3).trans e4) S4.cap
end
end Py

set_option Elab.async false
set_option linter.all false
set_option maxRecDepth 100000
set_option maxHeartbeats 2000000
/-! x[::-1] of lists and of tuples -/
namespace HT
open PySem PyProof.Rows
section
variable {prog : Program} {w : World} {A : Around} {E : Value → Shared → Prop} {s : Shared}
theorem adjust_rev (n : Nat) : Builtin.Slice.sliceAdjust none none (-1) (n : Int) = ((n : Int) - 1, -1) := by
  have h1 : ((-1 : Int) < 0) := by decide
  unfold Builtin.Slice.sliceAdjust
  simp only [h1, if_true]
theorem places_rev (n : Nat) : Builtin.Slice.slicePlaces ((n : Int) - 1) (-1) (-1) = n := by
  unfold Builtin.Slice.slicePlaces
  have h1 : ¬ ((-1 : Int) > 0) := by decide
  simp only [h1, if_false]
  by_cases h : n = 0
  · subst h; decide
  · have h2 : (n : Int) - 1 > -1 := by omega
    simp only [h2, if_true, show (- -1 : Int) = 1 by decide, Int.ediv_one]
    omega
theorem sliceApplied_rev {sl : Addr} {vl vu vs : Value} {n : Nat} {Q : Int × Int × Nat → Shared → Prop} (hs : s.heap.IsSliceOf sl vl vu vs) (pl : IsPart vl none) (pu : IsPart vu none) (ps : IsPart vs (some (-1)))
    (h : Q ((n : Int) - 1, -1, n) s) : wpAny (model prog w) A (Builtin.Slice.sliceApplied (.ref sl) (pure (n : Int))) Q E s := by
  obtain ⟨os, hos, hcs, hds⟩ := id hs
  unfold Builtin.Slice.sliceApplied Builtin.Slice.sliceFields
  refine wpAny_bind (wpAny_bind (wpAny_field hos hds (x := vl) rfl (wpAny_bind (wpAny_field hos hds (x := vu) rfl (wpAny_bind (wpAny_field hos hds (x := vs) rfl (wpAny_pure ?_)))))))
  refine wpAny_bind (slicePart_ ps ?_)
  show wpAny _ _ (if ((-1 : Int) == 0) = true then _ else _) _ _ s
  rw [if_neg (by decide)]
  refine wpAny_bind (slicePart_ pl (wpAny_bind (slicePart_ pu (wpAny_bind (wpAny_pure ?_)))))
  show wpAny _ _ (match Builtin.Slice.sliceAdjust none none (-1) (n : Int) with | (lo, hi) => pure (lo, (-1 : Int), Builtin.Slice.slicePlaces lo hi (-1))) _ _ s
  rw [adjust_rev n]
  show wpAny _ _ (pure ((n : Int) - 1, (-1 : Int), Builtin.Slice.slicePlaces ((n : Int) - 1) (-1) (-1))) _ _ s
  rw [places_rev]
  exact wpAny_pure h
theorem fm_congr {α β : Type} {f g : α → Option β} : ∀ l : List α, (∀ x ∈ l, f x = g x) → l.filterMap f = l.filterMap g
  | [], _ => rfl
  | x :: l, h => by
    rw [List.filterMap_cons, List.filterMap_cons, h x (List.mem_cons_self ..), fm_congr l fun y hy => h y (List.mem_cons_of_mem _ hy)]
theorem pick_rev (xs : Array Value) : ((List.range xs.size).filterMap fun (m : Nat) => xs[((xs.size : Int) - 1 + (m : Int) * (-1)).toNat]?).toArray = xs.toList.reverse.toArray := by
  congr 1
  have e : (List.range xs.size).filterMap (fun (m : Nat) => xs[((xs.size : Int) - 1 + (m : Int) * (-1)).toNat]?) = (List.range xs.size).map (fun (m : Nat) => xs.toList.reverse[m]?.getD .none) := by
    rw [← List.filterMap_eq_map]
    apply fm_congr
    intro m hm
    have hm := List.mem_range.mp hm
    have h1 : ((xs.size : Int) - 1 + (m : Int) * (-1)).toNat = xs.size - 1 - m := by omega
    have hl : m < xs.toList.reverse.length := by rw [List.length_reverse, Array.length_toList]; exact hm
    rw [h1]
    show _ = some (xs.toList.reverse[m]?.getD Value.none)
    rw [List.getElem?_eq_getElem hl, Array.getElem?_eq_getElem (by omega)]
    simp
  rw [e]
  apply List.ext_getElem
  · simp
  · intro i h1 h2
    rw [List.getElem_map, List.getElem_range, List.getElem?_eq_getElem h2]
    rfl
theorem getItem_tuple_rev {t sl : Addr} {items : Array Value} {vl vu vs : Value} {Q : Value → Shared → Prop} (ht : IsTup s.heap t items) (hs : s.heap.IsSliceOf sl vl vu vs) (pl : IsPart vl none) (pu : IsPart vu none) (ps : IsPart vs (some (-1)))
    (h : Q (.ref s.heap.objs.size) { s with heap := s.heap.push { cls := .type "tuple", data := .seq items.toList.reverse.toArray } })
    (hsz : items.size ≤ sizeLine) : wpAny (model prog w) A (getItem (.ref t) (.ref sl)) Q E s := by
  have htake : sizeOk (.seq items.toList.reverse.toArray) := by
    show items.toList.reverse.toArray.size ≤ sizeLine
    rw [List.size_toArray, List.length_reverse, Array.length_toList]
    omega
  obtain ⟨os, hos, hcs, hds⟩ := id hs
  have hTs : s.TypeIs (.ref sl) "slice" := ⟨os, hos, hcs⟩
  unfold getItem
  try with_reducible refine wpAny_holding ?_
  first | refine wpAny_bind (wpAny_pure ?_) | skip
  refine wpAny_bind (wpAny_sequenceKey ht.typeIs (by decide) ?_)
  refine wpAny_bind (wpAny_callSpecial?_slot (name := Str.ofString "__getitem__") ht.typeIs PyProof.Rows.slot_tuple_getitem
    (wpAny_call_entry PyProof.Rows.slot_tuple_getitem ht.typeIs entry_tuple_getitem ?_ (args_tuple_getitem _ _)))
  show wpAny _ _ (Builtin.Tuple.tupleItemsOf (.ref t) >>= _) _ _ s
  refine wpAny_bind (tupleItemsOf_ ht ?_)
  refine wpAny_bind (wpAny_typeOf hTs ?_)
  rw [if_pos (by decide)]
  refine wpAny_bind (sliceApplied_rev hs pl pu ps ?_)
  have hno : ¬ (((items.size : Int) - 1 == 0 && (-1 : Int) == 1 && items.size == items.size) = true) := by
    intro q
    rw [Bool.and_eq_true, Bool.and_eq_true] at q
    exact absurd q.1.2 (by decide)
  show wpAny _ _ (if ((items.size : Int) - 1 == 0 && (-1 : Int) == 1 && items.size == items.size) = true then _ else _) _ _ s
  rw [if_neg hno, pick_rev]
  first
    | exact wpAny_bind (m := Builtin.Tuple.tupleExact _) (wpAny_newObj_type (wpAny_pure ⟨_, rfl, wpAny_pure h⟩) htake)
    | exact wpAny_bind (m := Builtin.Tuple.tupleExact _) (wpAny_newObj_type (wpAny_bind (wpAny_pure (wpAny_pure ⟨_, rfl, wpAny_pure h⟩))) htake)
    | exact wpAny_bind (wpAny_bind (m := Builtin.Tuple.tupleExact _) (wpAny_newObj_type (wpAny_pure (wpAny_pure ⟨_, rfl, wpAny_pure h⟩)) htake))
    | exact wpAny_bind (wpAny_bind (m := Builtin.Tuple.tupleExact _) (wpAny_newObj_type (wpAny_pure ⟨_, rfl, wpAny_pure h⟩) htake))
end
end HT
namespace L2
open PySem PySem.Spec PyProof.Rows
section
variable {X : Cx}
def tRevA (K : PySem.W.Frag) (te : TE) : TE := fun σ H Q => te σ H fun x H1 => ∃ a xs, x = .ref a ∧ ((SqL K H1 a xs ∧ ∀ p, H1 p = none → Q (.ref p) (upd H1 p (.lst xs.reverse))) ∨ (SqT K H1 a xs ∧ ∀ p, H1 p = none → Q (.ref p) (upd H1 p (.tup xs.reverse))))
theorem pe_revA {e : Expr} {te : TE} {k : Nat} {p1 p2 p3 pos : Pos} (he : PE X e te) : PE X (.Subscript e (.Slice none none (some (.UnaryOp .USub (.Constant (.int 1) k p1) p2)) p3) pos) (tRevA X.K te) := by
  refine ⟨fun pins s σ H Q I h => ?_⟩
  refine Subscript_ (thn (he.run pins s σ H _ I h) fun v s1 ⟨x, H1, I1, r1, q1⟩ => ?_)
  obtain ⟨a, xs, ex, q⟩ := q1
  subst ex
  cases r1
  have hst : PO X (some (.UnaryOp .USub (.Constant (.int 1) k p1) p2)) (tPart (tUn (rU fun i => .int (-i)) (tC (.int 1)))) := po_some (pe_un un_neg pe_int)
  refine wpAny_Slice (thn (po_none.run pins s1 σ H1 (fun o H2 => o = none ∧ H2 = H1) I1 ⟨rfl, rfl⟩) fun vl s2 ⟨l, H2, I2, pl, el, e2⟩ => ?_)
  subst el e2
  refine thn (po_none.run pins s2 σ H2 (fun o H3 => o = none ∧ H3 = H2) I2 ⟨rfl, rfl⟩) fun vu s3 ⟨u, H3, I3, pu, eu, e3⟩ => ?_
  subst eu e3
  refine thn (hst.run pins s3 σ H3 (fun o H4 => o = some (-1) ∧ H4 = H3) I3 ⟨1, rfl, -1, rfl, rfl, rfl⟩) fun vs s4 ⟨o, H4, I4, ps, eo, e4⟩ => ?_
  subst eo e4
  have I5 : Inv X pins σ H4 { s4 with heap := s4.heap.push { cls := .type "slice", data := .fields #[vl, vu, vs] } } := I4.kept (t' := s4.toks) fun b ob q => Heap.get?_push_of_some _ q
  rcases q with ⟨hx, q⟩ | ⟨hx, q⟩
  · obtain ⟨its, r, ht, hz⟩ := I5.list hx
    have hlen := r.length
    show wpAny (model X.prog X.w) X.A (subscriptTail e (.Slice none none (some (.UnaryOp .USub (.Constant (.int 1) k p1) p2)) p3) (.ref a) (.ref s4.heap.objs.size)) (EP X pins σ Q) X.xe { s4 with heap := s4.heap.push { cls := .type "slice", data := .fields #[vl, vu, vs] } }
    refine tail_any (ops := [.ref a, .ref s4.heap.objs.size]) ht.isList.typeIs (PySem.slot_list_getitem.lookup) ?_ (by with_unfolding_all rfl)
    refine wpAny_getItem_list_slice ht.isList (Heap.IsSliceOf.new _ vl vu vs) pl pu ps (by decide) ?_ (by rw [List.size_toArray]; omega)
    rw [PySem.W.krv_pick]
    refine ⟨.ref _, _, I5.laid (t' := s4.toks) (o := .lst xs.reverse) (fun b ob q => Heap.get?_push_of_some _ q) (Nat.le_refl _) ?_, rfl, q _ (I5.hok.fresh (Nat.le_refl _))⟩
    exact ⟨by rw [List.length_reverse]; exact hz, _, 0, r.reverse, Heap.get?_push_size _ rfl⟩
  · obtain ⟨its, r, ht, hz⟩ := I5.tuple hx
    have hlen := r.length
    show wpAny (model X.prog X.w) X.A (subscriptTail e (.Slice none none (some (.UnaryOp .USub (.Constant (.int 1) k p1) p2)) p3) (.ref a) (.ref s4.heap.objs.size)) (EP X pins σ Q) X.xe { s4 with heap := s4.heap.push { cls := .type "slice", data := .fields #[vl, vu, vs] } }
    refine tail_any (ops := [.ref a, .ref s4.heap.objs.size]) ht.typeIs (PyProof.Rows.slot_tuple_getitem.lookup) ?_ (by with_unfolding_all rfl)
    refine HT.getItem_tuple_rev ht (Heap.IsSliceOf.new _ vl vu vs) pl pu ps ?_ (by rw [List.size_toArray]; omega)
    refine ⟨.ref _, _, I5.laid (t' := s4.toks) (o := .tup xs.reverse) (fun b ob q => Heap.get?_push_of_some _ q) (Nat.le_refl _) ?_, rfl, q _ (I5.hok.fresh (Nat.le_refl _))⟩
    exact ⟨by rw [List.length_reverse]; exact hz, _, r.reverse, IsTup.new _ _⟩
end
end L2

set_option Elab.async false
set_option linter.all false
set_option maxRecDepth 100000
set_option maxHeartbeats 1000000
namespace Py
open PySem PySem.Spec PyProof.Rows L2

section
variable {U : Wd} {k : Nat} {Γ : Cxt} {X : Cx} {W : WX} {G : Gs} {ow : Ow} {H : Hp} {s : DS}
theorem pe_if2 (g : Good U k Γ X W) {c a b : Expr} {pos : Pos} {f : St → Expr → M D} {fr fra frb : D → Bool} (hc : PT X c (tOfT U W (fun σ => tst (f σ) c))) (ha : PE X a (tOf U W (fun σ => f σ a) fra)) (hb : PE X b (tOf U W (fun σ => f σ b) frb))
    (h1 : ∀ d, fr d = true → fra d = true) (h2 : ∀ d, fr d = true → frb d = true) :
    PE X (.IfExp c a b pos) (tOf U W (fun σ => do let t ← tst (f σ) c; if t = true then f σ a else f σ b) fr) := by
  refine PE.imp (pe_ifExp hc (PE.weak ha h1) (PE.weak hb h2)) fun σ H Q h => ?_
  obtain ⟨H0, ow0, ow, σd, s, S, w⟩ := h
  refine tOfT.step S w fun t H1 s1 e1 S1 w1 => ?_
  cases t with
  | true =>
    rw [if_pos rfl] at w1 ⊢
    exact ⟨H0, ow0, ow, σd, s1, S1, w1.mono (fun d s' (q : PostE U ow fr H Q d s') => q.ext e1) fun x s' (q : PostX U W σ H x s') => q.ext e1⟩
  | false =>
    rw [if_neg (by decide)] at w1 ⊢
    exact ⟨H0, ow0, ow, σd, s1, S1, w1.mono (fun d s' (q : PostE U ow fr H Q d s') => q.ext e1) fun x s' (q : PostX U W σ H x s') => q.ext e1⟩
theorem tOfA.step {f : St → M (List D)} {β : Type} {kk : List D → M β} {σ : L2.St} {H0 : Hp} {ow0 : Ow} {σd : St} (S : SR U H0 ow0 ow σ H σd s) {Qb : β → DS → Prop} (w : Wp (f σd >>= kk) s Qb (PostX U W σ H)) {R : List V → Hp → Prop}
    (h : ∀ d v H1 s1, Ext U H H1 → SR U H0 ow0 ow σ H1 σd s1 → RpL U ow H1 d v → Wp (kk d) s1 Qb (PostX U W σ H) → R v H1) : tOfA U W f σ H R :=
  ⟨H0, ow0, ow, σd, s, S, w.of_bind.mono (fun d s1 h1 v H1 e c p => h d v H1 s1 e (S.ext e c) p h1) fun _ _ h => h⟩
theorem tOfPA.step {f : St → M (List D)} {β : Type} {kk : List D → M β} {σ : L2.St} {H0 : Hp} {ow0 : Ow} {σd : St} (S : SR U H0 ow0 ow σ H σd s) {Qb : β → DS → Prop} (w : Wp (f σd >>= kk) s Qb (PostX U W σ H)) {R : List V → Hp → Prop}
    (h : ∀ d v H1 s1, Ext U H H1 → SR U H0 ow0 ow σ H1 σd s1 → PkL U ow H1 d v → Wp (kk d) s1 Qb (PostX U W σ H) → R v H1) : tOfPA U W f σ H R :=
  ⟨H0, ow0, ow, σd, s, S, w.of_bind.mono (fun d s1 h1 v H1 e c p => h d v H1 s1 e (S.ext e c) p h1) fun _ _ h => h⟩
theorem pe_tup2 (g : Good U k Γ X W) {es : List Expr} {j : Nat} {pos : Pos} {f : St → M (List D)} (ha : PA X es (tOfA U W f)) :
    PE X (.Tuple es j pos) (tOf U W (fun σ => do let ds ← f σ; if ds.length ≤ sline then pure (.tuple ds) else fail) fun _ => false) := by
  refine PE.imp (pe_tup ha) fun σ H Q h => ?_
  obtain ⟨H0, ow0, ow, σd, s, S, w⟩ := h
  refine tOfA.step S w fun ds vs H1 s1 e1 S1 p1 w1 => ?_
  obtain ⟨hl, w1⟩ := w1.of_guard
  exact ⟨by rw [← p1.length, ← sline_eq]; exact hl, fun p np => S1.hk.newT _ p1 (PostE.ext w1.of_pure e1) rfl np⟩
theorem pe_lst2 (g : Good U k Γ X W) {es : List Expr} {pos : Pos} {f : St → M (List D)} (ha : PA X es (tOfA U W f)) :
    PE X (.List es pos) (tOf U W (fun σ => do let ds ← f σ; if ds.length ≤ sline then pure (.list ds) else fail) isL) := by
  refine PE.imp (pe_lst ha) fun σ H Q h => ?_
  obtain ⟨H0, ow0, ow, σd, s, S, w⟩ := h
  refine tOfA.step S w fun ds vs H1 s1 e1 S1 p1 w1 => ?_
  obtain ⟨hl, w1⟩ := w1.of_guard
  exact ⟨by rw [← p1.length, ← sline_eq]; exact hl, fun p np => S1.hk.newL _ p1 (PostE.ext w1.of_pure e1) np⟩
theorem pe_ix2 (g : Good U k Γ X W) {a i : Expr} {pos : Pos} {fa fi : St → M D} (ha : PE X a (tOfP U W fa)) (hi : PE X i (tOfP U W fi)) (hp : PlainIx i) :
    PE X (.Subscript a i pos) (tOf U W (fun σ => do let x ← fa σ; let y ← fi σ; getD' x y) fun _ => false) := by
  refine PE.imp (pe_ix (or_ix g.K g.w g.hu) ha hi hp) fun σ H Q h => ?_
  obtain ⟨H0, ow0, ow, σd, s, S, w⟩ := h
  refine tOfP.step S w fun d1 v1 H1 s1 e1 S1 p1 w1 => ?_
  refine tOfP.step S1 (w1.mono (fun d s' (q : PostE U ow _ H Q d s') => q.ext e1) fun x s' (q : PostX U W σ H x s') => q.ext e1) fun d2 v2 H2 s2 e2 S2 p2 w2 => ?_
  exact ⟨ow, s2, d1, d2, S2.hk, p1.ext e2, p2, w2.mono (fun d s' (q : PostE U ow _ H1 Q d s') => q.ext e2) fun _ _ _ => trivial⟩
/-- a part of a slice -/
def tOfO (U : Wd) (W : WX) (f : St → M (Option Int)) : TO := fun σ H Q => ∃ H0 ow0 ow σd s, SR U H0 ow0 ow σ H σd s ∧ Wp (f σd) s (fun o s' => ∀ H', Ext U H H' → Cap U H' s' → Q o H') (PostX U W σ H)
theorem PO.imp {e : Option Expr} {t t' : TO} (h : PO X e t) (i : ∀ σ H Q, t' σ H Q → t σ H Q) : PO X e t' := by
  cases e <;> exact ⟨fun pins s σ H Q I q => h.run pins s σ H Q I (i σ H Q q)⟩
theorem po_2 {f : St → Expr → M D} (ha : ∀ e, PE X e (tOfP U W (fun σ => f σ e))) : ∀ o : Option Expr, PO X o (tOfO U W (fun σ => evO (f σ) o))
  | none => PO.imp po_none fun σ H Q h => by
    obtain ⟨H0, ow0, ow, σd, s, S, w⟩ := h
    exact w.of_pure H Ext.refl S.cap
  | some e => PO.imp (po_some (ha e)) fun σ H Q h => by
    obtain ⟨H0, ow0, ow, σd, s, S, w⟩ := h
    refine tOfP.step S w fun d1 v1 H1 s1 e1 S1 p1 w1 => ?_
    have w1 := w1.of_bind
    unfold asInt at w1
    split at w1
    · exact ⟨_, p1.int, w1.of_pure.of_pure H1 e1 S1.cap⟩
    · exact w1.of_fail.elim
theorem pe_sl2 (g : Good U k Γ X W) {a : Expr} {lo hi : Option Expr} {pos p2 : Pos} {fa : St → M D} {fl fh : St → M (Option Int)} (ha : PE X a (tOfP U W fa)) (hl : PO X lo (tOfO U W fl)) (hh : PO X hi (tOfO U W fh)) :
    PE X (.Subscript a (.Slice lo hi none p2) pos) (tOf U W (fun σ => do let x ← fa σ; let l ← fl σ; let h ← fh σ; getS x l h) isL) := by
  refine PE.imp (pe_slice (or_sl g.K) ha hl hh) fun σ H Q h => ?_
  obtain ⟨H0, ow0, ow, σd, s, S, w⟩ := h
  refine tOfP.step S w fun d1 v1 H1 s1 e1 S1 p1 w1 => ?_
  refine ⟨H0, ow0, ow, σd, s1, S1, w1.of_bind.mono (fun l s2 h2 H2 e2 c2 => ⟨H0, ow0, ow, σd, s2, S1.ext e2 c2, h2.of_bind.mono (fun u s3 h3 H3 e3 c3 => ?_) fun x s' (q : PostX U W σ H x s') => q.ext (e1.trans e2)⟩) fun x s' (q : PostX U W σ H x s') => q.ext e1⟩
  exact ⟨ow, s3, d1, ((S1.ext e2 c2).ext e3 c3).hk, (p1.ext e2).ext e3, h3.mono (fun d s' (q : PostE U ow isL H Q d s') => q.ext ((e1.trans e2).trans e3)) fun _ _ _ => trivial⟩
theorem RpL.reverse : ∀ {ds : List D} {xs : List V}, RpL U ow H ds xs → RpL U ow H ds.reverse xs.reverse
  | [], _, h => by
    unfold RpL at h
    subst h
    exact RpL.nil
  | d :: ds, _, h => by
    unfold RpL at h
    obtain ⟨x, ys, e, r, rs⟩ := h
    subst e
    rw [List.reverse_cons, List.reverse_cons]
    exact (RpL.reverse rs).append (RpL.cons r RpL.nil)
theorem isM1_eq {st : Expr} (h : isM1 st = true) : ∃ k p1 p2, st = .UnaryOp .USub (.Constant (.int 1) k p1) p2 := by
  unfold isM1 at h
  split at h
  · exact ⟨_, _, _, rfl⟩
  · cases h
theorem pe_rev2 (g : Good U k Γ X W) {a st : Expr} {pos p3 : Pos} {fa : St → M D} (ha : PE X a (tOfP U W fa)) (hm : isM1 st = true) :
    PE X (.Subscript a (.Slice none none (some st) p3) pos) (tOf U W (fun σ => do let x ← fa σ; revD x) isL) := by
  obtain ⟨j, p1, p2, rfl⟩ := isM1_eq hm
  refine PE.imp (pe_revA ha) fun σ H Q h => ?_
  obtain ⟨H0, ow0, ow, σd, s, S, w⟩ := h
  refine tOfP.step S w fun d1 v1 H1 s1 e1 S1 p1 w1 => ?_
  cases d1 with
  | list ds =>
    obtain ⟨a, xs, rfl, h1, r⟩ := p1.list
    have q : PostE U ow isL H Q (.list ds.reverse) s1 := w1.of_pure
    refine ⟨a, xs, rfl, .inl ⟨L2.SqL.of h1, fun p np => ?_⟩⟩
    have hc := S1.nocap np
    exact q (.ref p) _ (e1.trans (Ext.new np)) (S1.cap.new np) (Rp.newL r.reverse np hc (S1.noow np)) fun _ => RF.new r.reverse (e1.none hc np) np hc
  | tuple ds =>
    obtain ⟨a, xs, rfl, h1, r⟩ := p1.tuple
    have q : PostE U ow isL H Q (.tuple ds.reverse) s1 := w1.of_pure
    refine ⟨a, xs, rfl, .inr ⟨by rw [g.K]; exact h1, fun p np => ?_⟩⟩
    have hc := S1.nocap np
    exact q (.ref p) _ (e1.trans (Ext.new np)) (S1.cap.new np) (Rp.newT r.reverse np hc (S1.noow np)) fun z => nomatch z
  | _ => exact (show Wp (fail : M D) s1 _ _ from w1).of_fail.elim

/-! ### isinstance -/
theorem tyN_ok (hK : X.K = U.K) {d : D} {v : V} {n : String} (h : tyN d = some n) (p : Pk U ow H d v) : TyX X.K H v (.type n) := by
  cases d with
  | none => cases h; rw [p.none]; exact .base .non
  | bool b => cases h; rw [p.bool]; exact .base (.bl b)
  | int b => cases h; rw [p.int]; exact .base (.int b)
  | str b => cases h; rw [p.str]; exact .base (.str b)
  | list ds => cases h; obtain ⟨a, xs, e, h1, _⟩ := p.list; rw [e]; exact .base (.lst h1)
  | tuple ds =>
    cases h
    rcases p with p | ⟨_, e⟩
    · unfold Rp at p
      obtain ⟨a, xs, e, n, _⟩ := p
      rw [e]
      rcases n with n | ⟨o, its, m, hk, hc, _⟩
      · exact .base (.tup n.1)
      · exact .kTuple (by rw [hK]; exact hk) hc
    · cases e.soft
  | dict kvs => cases h
theorem kit_all : ∀ a ∈ ["NoneType", "bool", "int", "str", "tuple", "list"], ∀ b ∈ ["int", "bool", "str", "tuple", "list"], kitB a b = some (a == b || (a == "bool" && b == "int")) := by decide +kernel
theorem tyN_mem {d : D} {n : String} (h : tyN d = some n) : n ∈ ["NoneType", "bool", "int", "str", "tuple", "list"] := by
  cases d <;> cases h <;> decide
theorem isiT_ok {t : Str} {n : String} (h : isiT t = some n) : bootBuiltins t = some (.type n) ∧ n ∈ ["int", "bool", "str", "tuple", "list"] := by
  unfold isiT at h
  by_cases h1 : t = ("int" : Str)
  · subst h1; rw [if_pos rfl] at h; cases h; exact ⟨PyProof.Rows.boot_int, by decide⟩
  rw [if_neg h1] at h
  by_cases h1 : t = ("bool" : Str)
  · subst h1; rw [if_pos rfl] at h; cases h; exact ⟨PyProof.Rows.boot_bool, by decide⟩
  rw [if_neg h1] at h
  by_cases h1 : t = ("str" : Str)
  · subst h1; rw [if_pos rfl] at h; cases h; exact ⟨PyProof.Rows.boot_str, by decide⟩
  rw [if_neg h1] at h
  by_cases h1 : t = ("tuple" : Str)
  · subst h1; rw [if_pos rfl] at h; cases h; exact ⟨PyProof.Rows.boot_tuple, by decide⟩
  rw [if_neg h1] at h
  by_cases h1 : t = ("list" : Str)
  · subst h1; rw [if_pos rfl] at h; cases h; exact ⟨PyProof.Rows.boot_list, by decide⟩
  rw [if_neg h1] at h
  cases h
theorem gname_ok (g : Good U k Γ X W) (go : GlOk U k G) {x : Str} (h : okName x = true) (h2 : kindG Γ.sc x = true) (h3 : G.bare x = true) : L2.Gl X x ∧ X.mg x = none ∧ (x == ("__debug__" : Str)) = false ∧ x ≠ "__name__" := by
  obtain ⟨a, b, c⟩ := okName_d h
  exact ⟨kindG_gl g h2, by rw [g.mg]; exact go.bare x h3, a, c⟩
theorem bare_isi : bootBuiltins "isinstance" = some (.builtin "isinstance") := PyProof.Rows.boot_isinstance
theorem pe_isi2 (g : Good U k Γ X W) (go : GlOk U k G) {a : Expr} {t : Str} {p p2 pos : Pos} {fa : St → M D} (ha : PE X a (tOfP U W fa)) (hn : notStar a = true) (h1 : L2.Gl X "isinstance") (h2 : X.mg "isinstance" = none)
    (hg : gname G Γ t = true) (ht : (isiT t).isSome = true) :
    PE X (.Call (.Name "isinstance" p) [a, .Name t p2] [] pos) (tOf U W (fun σ => do
      let x ← fa σ
      match isi x t with
        | some b => pure (.bool b)
        | none => fail) fun _ => false) := by
  unfold gname at hg
  simp only [Bool.and_eq_true] at hg
  obtain ⟨k1, k2, k3, k4⟩ := gname_ok g go hg.1.1 hg.1.2 hg.2
  cases hn' : isiT t with
  | none => rw [hn'] at ht; cases ht
  | some n =>
    obtain ⟨hb, hm⟩ := isiT_ok hn'
    have pt : PE X (.Name t p2) (tC (.ty n)) := pe_bltn k1 k2 hb rfl k4 k3
    refine PE.imp (pe_callB call_isi h1 h2 bare_isi (pa_cons ha (pa_cons pt pa_nil rfl) (starEach_ns hn)) (by decide) (by decide) (starEach_ns hn) (by rfl)) fun σ H Q h => ?_
    obtain ⟨H0, ow0, ow, σd, s, S, w⟩ := h
    show tOfP U W fa σ H _
    refine tOfP.step S w fun d1 v1 H1 s1 e1 S1 p1 w1 => ?_
    unfold isi at w1
    rw [hn'] at w1
    cases hy : tyN d1 with
    | none => rw [hy] at w1; exact w1.of_fail.elim
    | some m =>
      rw [hy] at w1
      exact ⟨v1, .ty n, .type m, .type n, _, rfl, .ty n, tyN_ok g.K hy p1, kit_ty (kit_all m (tyN_mem hy) n hm), postV S1.hk (PostE.ext w1.of_pure e1) Rp.bool rfl⟩
theorem isi_both {d : D} {v : V} {t n : Str} {m : String} {b : Bool} {nn : String} (hn : isiT t = some nn) (hy : tyN d = some m) (h : isi d t = some b) : PySem.W.kitOne X.K (.type m) (.type nn) = some b := by
  unfold isi at h
  rw [hn, hy] at h
  cases h
  exact kit_ty (kit_all m (tyN_mem hy) nn (isiT_ok hn).2)
theorem pe_isiT2 (g : Good U k Γ X W) (go : GlOk U k G) {a : Expr} {t t2 : Str} {p p2 p3 p4 pos : Pos} {j : Nat} {fa : St → M D} (ha : PE X a (tOfP U W fa)) (hn : notStar a = true) (h1 : L2.Gl X "isinstance") (h2 : X.mg "isinstance" = none)
    (hg : gname G Γ t = true) (hg2 : gname G Γ t2 = true) (ht : (isiT t).isSome = true) (ht2 : (isiT t2).isSome = true) :
    PE X (.Call (.Name "isinstance" p) [a, .Tuple [.Name t p2, .Name t2 p3] j p4] [] pos) (tOf U W (fun σ => do
      let x ← fa σ
      match isi x t, isi x t2 with
        | some b, some c => pure (.bool (b || c))
        | _, _ => fail) fun _ => false) := by
  unfold gname at hg hg2
  simp only [Bool.and_eq_true] at hg hg2
  obtain ⟨k1, k2, k3, k4⟩ := gname_ok g go hg.1.1 hg.1.2 hg.2
  obtain ⟨l1, l2, l3, l4⟩ := gname_ok g go hg2.1.1 hg2.1.2 hg2.2
  obtain ⟨n, hn'⟩ := Option.isSome_iff_exists.mp ht
  obtain ⟨n2, hn2'⟩ := Option.isSome_iff_exists.mp ht2
  have pt : PE X (.Name t p2) (tC (.ty n)) := pe_bltn k1 k2 (isiT_ok hn').1 rfl k4 k3
  have pt2 : PE X (.Name t2 p3) (tC (.ty n2)) := pe_bltn l1 l2 (isiT_ok hn2').1 rfl l4 l3
  refine PE.imp (pe_callB call_isiT h1 h2 bare_isi (pa_cons ha (pa_cons (pe_tup (pa_cons pt (pa_cons pt2 pa_nil rfl) rfl)) pa_nil rfl) (starEach_ns hn)) (by decide) (by decide) (starEach_ns hn) (by rfl)) fun σ H Q h => ?_
  obtain ⟨H0, ow0, ow, σd, s, S, w⟩ := h
  show tOfP U W fa σ H _
  refine tOfP.step S w fun d1 v1 H1 s1 e1 S1 p1 w1 => ?_
  refine ⟨by show 2 ≤ sizeLine; rw [sizeLine_eq]; decide, fun q np => ?_⟩
  have ex := Ext.new (U := U) (o := .tup [.ty n, .ty n2]) np
  cases hb : isi d1 t with
  | none => rw [hb] at w1; exact w1.of_fail.elim
  | some b =>
    cases hb2 : isi d1 t2 with
    | none => rw [hb, hb2] at w1; exact w1.of_fail.elim
    | some c =>
      rw [hb, hb2] at w1
      cases hy : tyN d1 with
      | none => unfold isi at hb; rw [hy] at hb; cases hb
      | some m =>
        have z1 := isi_both (X := X) (v := v1) (n := t) hn' hy hb
        have z2 := isi_both (X := X) (v := v1) (n := t) hn2' hy hb2
        refine ⟨v1, q, [.ty n, .ty n2], .type m, [.type n, .type n2], b || c, rfl, upd_same, .cons (.ty n) (.cons (.ty n2) .nil), tyN_ok g.K hy (p1.ext ex), ?_, ?_⟩
        · unfold PySem.W.kitAny
          rw [z1]
          cases b with
          | true => rfl
          | false =>
            show PySem.W.kitAny X.K (.type m) [.type n2] = _
            unfold PySem.W.kitAny
            rw [z2]
            cases c <;> rfl
        · exact w1.of_pure _ _ (e1.trans ex) (S1.cap.new np) Rp.bool fun z => by cases z
end
end Py

set_option Elab.async false
set_option linter.all false
set_option maxRecDepth 100000
set_option maxHeartbeats 1000000
namespace Py
open PySem PySem.Spec PyProof.Rows L2
section
variable {U : Wd} {k : Nat} {Γ : Cxt} {X : Cx} {W : WX} {G : Gs} {ow : Ow} {H : Hp} {s : DS}
theorem boot_sum : bootBuiltins "sum" = some (.builtin "sum") := by decide +kernel
theorem boot_max : bootBuiltins "max" = some (.builtin "max") := by decide +kernel
theorem boot_min : bootBuiltins "min" = some (.builtin "min") := by decide +kernel
theorem boot_all : bootBuiltins "all" = some (.builtin "all") := by decide +kernel
theorem boot_any : bootBuiltins "any" = some (.builtin "any") := by decide +kernel
theorem boot_sorted : bootBuiltins "sorted" = some (.builtin "sorted") := by decide +kernel
theorem biN_ok {f : Str} (h : biN f = true) : (∃ id, bootBuiltins f = some (.builtin id)) ∨ (∃ T, bootBuiltins f = some (.type T)) := by
  have h := of_decide_eq_true h
  simp only [List.mem_cons, List.not_mem_nil, or_false] at h
  rcases h with h | h | h | h | h | h | h | h | h | h | h <;> subst h
  · exact .inl ⟨_, PySem.boot_len⟩
  · exact .inl ⟨_, boot_sum⟩
  · exact .inl ⟨_, PyProof.Rows.boot_abs⟩
  · exact .inl ⟨_, boot_max⟩
  · exact .inl ⟨_, boot_min⟩
  · exact .inr ⟨_, PyProof.Rows.boot_int⟩
  · exact .inr ⟨_, PyProof.Rows.boot_list⟩
  · exact .inr ⟨_, PyProof.Rows.boot_tuple⟩
  · exact .inl ⟨_, boot_all⟩
  · exact .inl ⟨_, boot_any⟩
  · exact .inl ⟨_, boot_sorted⟩
theorem bi_nil {f : Str} : bi f [] = fail := by
  unfold bi
  dsimp only
  simp only [ite_self]
theorem pe_bi2 (g : Good U k Γ X W) {f : Str} {args : List Expr} {p pos : Pos} {fa : St → M (List D)} (ha : PA X args (tOfPA U W fa)) (hn : noStars args = true) (h1 : L2.Gl X f) (h2 : X.mg f = none) (h3 : (f == ("__debug__" : Str)) = false) (h4 : f ≠ "__name__")
    (hb : biN f = true) (he : args = [] → ∀ σ, fa σ = pure []) :
    PE X (.Call (.Name f p) args [] pos) (tOf U W (fun σ => do let xs ← fa σ; bi f xs) fun d => frB f && isL d) := by
  cases args with
  | nil =>
    refine ⟨fun pins s' σ H Q I h => ?_⟩
    obtain ⟨H0, ow0, ow, σd, s, S, w⟩ := h
    have w : Wp (do let xs ← fa σd; bi f xs) s _ _ := w
    rw [he rfl] at w
    have w := w.of_bind.of_pure
    rw [bi_nil] at w
    exact w.of_fail.elim
  | cons a as =>
    have hs : starEach (a :: as) X.env = (false, eval a X.env) :: starEach as X.env := starEach_ns (noStars_mem hn a List.mem_cons_self)
    have hp : (backTo pos (starEach as X.env)).any (·.1) = false := plain_star fun e he => noStars_mem hn e (List.mem_cons_of_mem _ he)
    have fin : ∀ σ H Q, tOf U W (fun σ => do let xs ← fa σ; bi f xs) (fun d => frB f && isL d) σ H Q → tCB (rBi U f) (tOfPA U W fa) σ H Q := fun σ H Q h => by
      obtain ⟨H0, ow0, ow, σd, s, S, w⟩ := h
      show tOfPA U W fa σ H _
      refine tOfPA.step S w fun ds vs H1 s1 e1 S1 p1 w1 => ?_
      exact ⟨ow, s1, ds, S1.hk, p1, w1.mono (fun d s' (q : PostE U ow _ H Q d s') => q.ext e1) fun _ _ _ => trivial⟩
    have hu := g.hu
    rcases biN_ok hb with ⟨id, hv⟩ | ⟨T, hv⟩
    · exact PE.imp (pe_callB (cr_bi g.K g.calm (by omega) hv) h1 h2 hv ha h4 h3 hs hp) fin
    · exact PE.imp (pe_callTy (cr_bi g.K g.calm (by omega) hv) h1 h2 hv ha h4 h3 hs hp) fin
/-! ### defs -/
theorem flat_ow {ow' : Ow} (S : Hk U ow H s) {H' : Hp} (e : Ext U H H') (h0 : ∀ a, ow' a = none) : (∀ (d : D) (v : V), flat d = true → Rp U ow' H' d v → Rp U ow H' d v) ∧ (∀ (ds : List D) (vs : List V), flats ds = true → RpL U ow' H' ds vs → RpL U ow H' ds vs) := by
  have hd : ∀ (a : Addr) (xs : List V), a ≠ U.cap → H' a = some (.tup xs) → ow a = none := fun a xs hc ha => by
    cases ho : ow a with
    | none => rfl
    | some i =>
      obtain ⟨u, hu, ht⟩ := S.trk a (by rw [ho]; intro z; cases z)
      have := e a u hc hu
      rw [ha] at this
      exact absurd (Option.some.inj this).symm (ht xs)
  have key : ∀ n, (∀ (d : D) (v : V), sizeOf d < n → flat d = true → Rp U ow' H' d v → Rp U ow H' d v) ∧ (∀ (ds : List D) (vs : List V), sizeOf ds < n → flats ds = true → RpL U ow' H' ds vs → RpL U ow H' ds vs) := by
    intro n
    induction n with
    | zero => exact ⟨fun d v h => absurd h (by omega), fun d v h => absurd h (by omega)⟩
    | succ n ih =>
      constructor
      · intro d v hn hf h
        cases d with
        | list ds => simp [flat] at hf
        | dict ds => simp [flat] at hf
        | tuple ds =>
          have hf : flats ds = true := by simpa [flat] using hf
          unfold Rp at h ⊢
          obtain ⟨a, xs, e1, nd, r⟩ := h
          refine ⟨a, xs, e1, nd.imp (fun nd => ⟨nd.1, hd a xs nd.2.2 nd.1, nd.2.2⟩) id, ih.2 ds xs ?_ hf r⟩
          simp at hn; omega
        | _ => unfold Rp at h ⊢; exact h
      · intro ds vs hn hf h
        cases ds with
        | nil => unfold RpL at h ⊢; exact h
        | cons d ds =>
          have hf : flat d = true ∧ flats ds = true := by simpa [flats] using hf
          unfold RpL at h ⊢
          obtain ⟨x, ys, e1, h1, h2⟩ := h
          simp at hn
          exact ⟨x, ys, e1, ih.1 d x (by omega) hf.1 h1, ih.2 ds ys (by omega) hf.2 h2⟩
  exact ⟨fun d v hf h => (key (sizeOf d + 1)).1 d v (by omega) hf h, fun ds vs hf h => (key (sizeOf ds + 1)).2 ds vs (by omega) hf h⟩
theorem Pk.free {d : D} {v : V} (h : Pk U ow H d v) : Rp U (fun _ => Option.none) H d v := by
  rcases h with h | ⟨i, a, u, e2, h1, h2, h3, r⟩
  · exact Rp.mono (fun a u hc ho e => ⟨e, rfl⟩) d v h
  · rcases r with ⟨ds, xs, e1, e3, r⟩ | ⟨ds, xs, e1, e3, r⟩
    · subst e1 e2 e3
      unfold Rp
      exact ⟨a, xs, rfl, ⟨h1, rfl, h3⟩, RpL.mono (fun a u hc ho e => ⟨e, rfl⟩) ds xs r⟩
    · subst e1 e2 e3
      unfold Rp
      exact .inr ⟨a, xs, rfl, .inl ⟨h1, rfl, h3⟩, RpD.mono (fun a u hc ho e => ⟨e, rfl⟩) ds xs r⟩
theorem PkL.free : ∀ {ds : List D} {vs : List V}, PkL U ow H ds vs → RpL U (fun _ => none) H ds vs
  | [], _, h => by unfold PkL at h; unfold RpL; exact h
  | d :: ds, _, h => by
    unfold PkL at h
    obtain ⟨x, ys, e, p, r⟩ := h
    unfold RpL
    exact ⟨x, ys, e, p.free, PkL.free r⟩
theorem quiet_wp {α : Type} {m : M α} {Q : α → DS → Prop} {E : Exc → DS → Prop} (w : Wp (quiet m) s Q E) : Wp m s Q fun _ _ => False := by
  have e : quiet m s = (match m s with | Res.ok a s' => Res.ok a s' | Res.exc _ _ => Res.fail | Res.fail => Res.fail) := by
    show (match m s with | Res.ok a s' => Res.ok a s' | _ => Res.fail) = _
    cases m s <;> rfl
  unfold Wp at w ⊢
  rw [e] at w
  cases h : m s with
  | ok a s' => rw [h] at w; exact w
  | exc x s' => rw [h] at w; exact w
  | fail => rw [h] at w; exact w
/-- f(..) -/
theorem pe_defG (g : Good U k Γ X W) (gf : FnsOk U k G) {f : Str} {fg : Flg} {args : List Expr} {p pos : Pos} (hf : G.fns f = some fg) (hn : noStars args = true) (h1 : L2.Gl X f) (h3 : (f == ("__debug__" : Str)) = false) {t : TA} (ha : PA X args t) {tt : TE}
    (ht : ∀ (σ : L2.St) (H : Hp) (Q : VK) (n : Nat), (∀ ds s, ds.length ≠ n → G.call f ds s = .fail) → tt σ H Q → (if args = [] then (fun σ H R => R [] H) else t) σ H fun vs H1 => spF U G.call fg f n vs H1 Q (if args = [] then E0 else fun cls d H => W cls d σ H)) :
    PE X (.Call (.Name f p) args [] pos) tt := by
  obtain ⟨fa, fd, ps, hm, hk, hb, F, bad⟩ := gf.fns f fg hf
  have F' : FnOk X.prog X.w X.K X.mg X.base (L2.CX X.prog X.w) k fa fd ps (spF U G.call fg f ps.length) := by rw [g.P, g.w, g.K, g.mg, g.base]; exact F
  have hm' : X.mg f = some (.ref fa) := by rw [g.mg]; exact hm
  have hk' : PySem.W.keepIn X.K (.ref fa) = true := by rw [g.K]; exact hk
  have hb' : Binds X.K fd ps [] := by rw [g.K]; exact hb
  cases args with
  | nil =>
    refine PE.imp (pe_call0 (E := E0) F' g.room h1 hm' hk' hb' .nil L2.passL h3) fun σ H Q h => ?_
    have := ht σ H Q ps.length bad h
    simp only [if_true] at this
    exact this
  | cons a as =>
    have hs : starEach (a :: as) X.env = (false, eval a X.env) :: starEach as X.env := starEach_ns (noStars_mem hn a List.mem_cons_self)
    have hp : (backTo pos (starEach as X.env)).any (·.1) = false := plain_star fun e he => noStars_mem hn e (List.mem_cons_of_mem _ he)
    refine PE.imp (pe_callS (E := WE W) F' g.room h1 hm' hk' hb' (fun σ => passAt g.tk σ) ha h3 hs hp) fun σ H Q h => ?_
    have := ht σ H Q ps.length bad h
    rw [if_neg (by simp), if_neg (by simp)] at this
    exact this
theorem callQ_wp {args : List Expr} {f : Str} {xs : List D} {Q : D → DS → Prop} {E : Exc → DS → Prop} (w : Wp (callQ G f args xs) s Q E) : Wp (G.call f xs) s Q (if args = [] then (fun _ _ => False) else E) := by
  cases args with
  | nil => exact quiet_wp w
  | cons a as => rw [if_neg (by simp)]; exact w
theorem len_call {n : Nat} {f : Str} {xs : List D} {Q : D → DS → Prop} {E : Exc → DS → Prop} (bad : ∀ ds s, ds.length ≠ n → G.call f ds s = .fail) (w : Wp (G.call f xs) s Q E) : xs.length = n := by
  by_cases h : xs.length = n
  · exact h
  · unfold Wp at w
    rw [bad _ _ h] at w
    exact w.elim
theorem PkL.length : ∀ {ds : List D} {vs : List V}, PkL U ow H ds vs → ds.length = vs.length
  | [], _, h => by unfold PkL at h; rw [h]; rfl
  | d :: ds, _, h => by
    unfold PkL at h
    obtain ⟨x, ys, e, p, r⟩ := h
    rw [e, List.length_cons, List.length_cons, PkL.length r]
theorem xpost {args : List Expr} {σ : L2.St} {H1 : Hp} (e1 : Ext U H H1) {x : Exc} {s' : DS} (q : (if args = [] then (fun _ _ => False) else PostX U W σ H) x s') : PostXE U (if args = [] then E0 else fun cls d H => W cls d σ H) H1 x s' := by
  cases args with
  | nil => exact q.elim
  | cons a as =>
    rw [if_neg (by simp)] at q ⊢
    exact fun cls od H' e' => q cls od H' (e1.trans e')
/-- what is handed over is shared -/
theorem pe_defS (g : Good U k Γ X W) (gf : FnsOk U k G) {f : Str} {fg : Flg} {args : List Expr} {p pos : Pos} (hf : G.fns f = some fg) (hn : noStars args = true) (h1 : L2.Gl X f) (h3 : (f == ("__debug__" : Str)) = false) {fa : St → M (List D)} (ha : PA X args (tOfA U W fa))
    (h0 : args = [] → ∀ σ, fa σ = pure []) :
    PE X (.Call (.Name f p) args [] pos) (tOf U W (fun σ => do let xs ← fa σ; callQ G f args xs) fun d => fg.fr && isL d) := by
  refine pe_defG g gf hf hn h1 h3 ha fun σ H Q n bad h => ?_
  obtain ⟨H0, ow0, ow, σd, s, S, w⟩ := h
  have w : Wp (do let xs ← fa σd; callQ G f args xs) s _ _ := w
  have fin : ∀ ds vs H1 s1, Ext U H H1 → SR U H0 ow0 ow σ H1 σd s1 → RpL U ow H1 ds vs → Wp (callQ G f args ds) s1 (PostE U ow (fun d => fg.fr && isL d) H Q) (PostX U W σ H) → spF U G.call fg f n vs H1 Q (if args = [] then E0 else fun cls d H => W cls d σ H) := by
    intro ds vs H1 s1 e1 S1 r w1
    have w2 := callQ_wp w1
    have hl := len_call bad w2
    exact ⟨by rw [← r.length]; exact hl, ow, s1, ds, S1.hk, S1.cello, r, w2.mono (fun d s' (q : PostE U ow _ H Q d s') => q.ext e1) fun x s' q => xpost e1 q⟩
  by_cases hz : args = []
  · rw [if_pos hz]
    rw [h0 hz] at w
    exact fin [] [] H s Ext.refl S RpL.nil w.of_bind.of_pure
  · rw [if_neg hz]
    exact tOfA.step S w fun ds vs H1 s1 e1 S1 p1 w1 => fin ds vs H1 s1 e1 S1 p1 w1
/-- what is handed over is peeked at; flat data come back -/
theorem pe_defP (g : Good U k Γ X W) (gf : FnsOk U k G) {f : Str} {fg : Flg} {args : List Expr} {p pos : Pos} (hf : G.fns f = some fg) (hn : noStars args = true) (h1 : L2.Gl X f) (h3 : (f == ("__debug__" : Str)) = false) {fa : St → M (List D)} (ha : PA X args (tOfPA U W fa))
    (h0 : args = [] → ∀ σ, fa σ = pure []) :
    PE X (.Call (.Name f p) args [] pos) (tOf U W (fun σ => do let xs ← fa σ; let d ← callQ G f args xs; if flat d = true then pure d else fail) fun _ => false) := by
  refine pe_defG g gf hf hn h1 h3 ha fun σ H Q n bad h => ?_
  obtain ⟨H0, ow0, ow, σd, s, S, w⟩ := h
  have w : Wp (do let xs ← fa σd; let d ← callQ G f args xs; if flat d = true then pure d else fail) s _ _ := w
  have fin : ∀ ds vs H1 s1, Ext U H H1 → SR U H0 ow0 ow σ H1 σd s1 → PkL U ow H1 ds vs → Wp (do let d ← callQ G f args ds; if flat d = true then pure d else fail) s1 (PostE U ow (fun _ => false) H Q) (PostX U W σ H) → spF U G.call fg f n vs H1 Q (if args = [] then E0 else fun cls d H => W cls d σ H) := by
    intro ds vs H1 s1 e1 S1 r w1
    have w2 := callQ_wp w1.of_bind
    have hl := len_call bad w2
    refine ⟨by rw [← r.length]; exact hl, fun _ => none, s1, ds, ⟨fun a h => absurd rfl h, rfl, S1.cap⟩, rfl, r.free, w2.mono (fun d s' q => ?_) fun x s' q => xpost e1 q⟩
    obtain ⟨hfl, q⟩ := Wp.of_guard q
    have q := q.of_pure
    intro v H' e' c' r' _
    exact q v H' (e1.trans e') c' ((flat_ow S1.hk e' (fun _ => rfl)).1 d v hfl r') fun z => by cases z
  by_cases hz : args = []
  · rw [if_pos hz]
    rw [h0 hz] at w
    exact fin [] [] H s Ext.refl S (by unfold PkL; rfl) w.of_bind.of_pure
  · rw [if_neg hz]
    exact tOfPA.step S w fun ds vs H1 s1 e1 S1 p1 w1 => fin ds vs H1 s1 e1 S1 p1 w1
end
end Py

set_option Elab.async false
set_option linter.all false
set_option maxRecDepth 100000
set_option maxHeartbeats 1000000
namespace Py
open PySem PySem.Spec PyProof.Rows L2
section
variable {U : Wd} {k : Nat} {Γ : Cxt} {X : Cx} {W : WX} {G : Gs}
theorem fnOk_ok {f : Str} (h : fnOk G Γ f = true) : okName f = true ∧ kindG Γ.sc f = true ∧ G.bare f = false ∧ ∃ fg, G.fns f = some fg ∧ fg.fl = false := by
  unfold fnOk at h
  simp only [Bool.and_eq_true] at h
  obtain ⟨⟨⟨h1, h2⟩, h3⟩, h4⟩ := h
  refine ⟨h1, h2, by simpa using h3, ?_⟩
  split at h4
  · rename_i fg e
    exact ⟨fg, e, by simpa using h4⟩
  · cases h4
def adr (U : Wd) (f : Str) : Addr := match U.mg f with
  | some (.ref a) => a
  | _ => 0
theorem pe_fnm (g : Good U k Γ X W) (gf : FnsOk U k G) {f : Str} {p : Pos} (h : fnOk G Γ f = true) : PE X (.Name f p) (fun σ H Q => Q (.ref (adr U f)) H) := by
  obtain ⟨h1, h2, h3, fg, h4, h5⟩ := fnOk_ok h
  obtain ⟨fa, fd, ps, hm, _⟩ := gf.fns f fg h4
  obtain ⟨k1, _, _⟩ := okName_d h1
  refine ⟨fun pins s σ H Q I q => ?_⟩
  refine ld_glob I (kindG_gl g h2) (by rw [g.mg]; exact hm) ⟨.ref fa, H, I, rfl, ?_⟩ k1
  have : adr U f = fa := by unfold adr; rw [hm]
  rw [this] at q
  exact q
theorem pa_fnm (g : Good U k Γ X W) (gf : FnsOk U k G) : ∀ {es : List Expr} {fs : List Str}, fnNames es = some fs → fs.all (fnOk G Γ) = true → PA X es (fun σ H Q => Q (fs.map fun f => V.ref (adr U f)) H)
  | [], _, h, _ => by cases h; exact pa_nil
  | e :: es, fs, h, ha => by
    cases e with
    | Name f p =>
      cases hr : fnNames es with
      | none => unfold fnNames at h; rw [hr] at h; cases h
      | some gs =>
        unfold fnNames at h
        rw [hr] at h
        cases h
        rw [List.all_cons, Bool.and_eq_true] at ha
        exact pa_cons (pe_fnm g gf ha.1) (pa_fnm g gf hr ha.2) rfl
    | _ => cases h
theorem plainI_ok {i : Expr} (h : plainI i = true) : PlainIx i := by
  cases i <;> first | (cases h; done) | exact fun _ _ => rfl
theorem pe_callT (g : Good U k Γ X W) (gf : FnsOk U k G) {es args : List Expr} {i : Expr} {p1 p2 pos : Pos} {fs : List Str} (hfs : fnNames es = some fs) (hok : fs.all (fnOk G Γ) = true) (hlen : fs.length ≤ 1000) (hn : noStars args = true) (ha0 : args.isEmpty = false)
    (hp : PlainIx i) {fi : St → M D} {fa : St → M (List D)} (hi : PE X i (tOfP U W fi)) (ha : PA X args (tOfA U W fa)) :
    PE X (.Call (.Subscript (.List es p1) i p2) args [] pos) (tOf U W (fun σ => do let d ← fi σ; let j ← asInt d; (match L2.atI fs j with | some f => (do let xs ← fa σ; G.call f xs) | none => fail : M D)) fun _ => false) := by
  obtain ⟨a, as, rfl⟩ : ∃ a as, args = a :: as := by
    cases args with
    | nil => cases ha0
    | cons a as => exact ⟨a, as, rfl⟩
  have hs : starEach (a :: as) X.env = (false, eval a X.env) :: starEach as X.env := starEach_ns (noStars_mem hn a List.mem_cons_self)
  have hpl : (backTo pos (starEach as X.env)).any (·.1) = false := plain_star fun e he => noStars_mem hn e (List.mem_cons_of_mem _ he)
  have hc := pe_ix (pos := p2) ix_list (pe_lst (pos := p1) (pa_fnm g gf hfs hok)) hi hp
  refine ⟨fun pins s σ H Q I h => ?_⟩
  obtain ⟨H0, ow0, ow, σd, sd, S, w⟩ := h
  show wpAny _ _ (do callWith pos (← eval (.Subscript (.List es p1) i p2) X.env) [] (backTo pos (starEach (a :: as) X.env)) (backToKw pos (keywordEach [] X.env))) _ _ _
  refine wpAny_bind (thn (hc.run pins s σ H (fun v H1 => ∃ f fg, fnOk G Γ f = true ∧ G.fns f = some fg ∧ v = .ref (adr U f) ∧ tOfA U W fa σ H1 fun vs H2 => ∀ n, (∀ ds s, ds.length ≠ n → G.call f ds s = .fail) → spF U G.call fg f n vs H2 Q (WE W σ)) I ?_) fun u s1 ⟨v, H1, I1, r1, f, fg, k1, k2, ev, q⟩ => ?_)
  · refine ⟨by rw [List.length_map]; exact Nat.le_trans hlen (by rw [← sline_eq]; decide), fun p np => ?_⟩
    have S1 := S.ext (Ext.new (o := .lst (fs.map fun f => V.ref (adr U f))) np) (S.cap.new np)
    have e0 : Ext U H (upd H p (.lst (fs.map fun f => V.ref (adr U f)))) := Ext.new np
    have hpc : p ≠ U.cap := S.nocap np
    have w : Wp (do let d ← fi σd; let j ← asInt d; (match L2.atI fs j with | some f => (do let xs ← fa σd; G.call f xs) | none => fail : M D)) sd _ _ := w
    refine tOfP.step S1 (w.mono (fun d s' (q : PostE U ow _ H Q d s') => q.ext e0) fun x s' (q : PostX U W σ H x s') => q.ext e0) fun d v H1 s1 e1 S1 p1 w1 => ?_
    obtain ⟨j, rfl⟩ : ∃ j, d = .int j := by
      cases d with
      | int j => exact ⟨j, rfl⟩
      | _ => exact w1.of_bind.of_fail.elim
    have w1 := w1.of_bind.of_pure
    cases hj : L2.atI fs j with
    | none => rw [hj] at w1; exact w1.of_fail.elim
    | some f =>
    rw [hj] at w1
    have hfm : f ∈ fs := by
      unfold L2.atI at hj
      cases hx : L2.ixN fs.length j with
      | none => rw [hx] at hj; cases hj
      | some m => rw [hx] at hj; exact List.mem_of_getElem? hj
    have k1 : fnOk G Γ f = true := List.all_eq_true.mp hok f hfm
    obtain ⟨_, _, _, fg, k2, k3⟩ := fnOk_ok k1
    have hj2 : L2.atI (fs.map fun f => V.ref (adr U f)) j = some (V.ref (adr U f)) := by
      unfold L2.atI at hj ⊢
      rw [List.length_map]
      cases hx : L2.ixN fs.length j with
      | none => rw [hx] at hj; cases hj
      | some m =>
        rw [hx] at hj
        show (fs.map _)[m]? = _
        rw [List.getElem?_map, show fs[m]? = some f from hj]
        rfl
    have hl1 : H1 p = some (.lst (fs.map fun f => V.ref (adr U f))) := e1 p _ hpc upd_same
    refine ⟨p, _, j, V.ref (adr U f), rfl, p1.int, .inl (.inl hl1), hj2, f, fg, k1, k2, rfl, ?_⟩
    refine tOfA.step S1 (w1.mono (fun d s' (q : PostE U ow _ _ Q d s') => q.ext e1) fun x s' (q : PostX U W σ _ x s') => q.ext e1) fun ds vs H2 s2 e2 S2 r2 w2 n bad => ?_
    have hl := len_call bad w2
    refine ⟨by rw [← r2.length]; exact hl, ow, s2, ds, S2.hk, S2.cello, r2, w2.mono (fun d s' (q : PostE U ow _ H1 Q d s') => ?_) fun x s' q => ?_⟩
    · exact fun v' H' e' c' r' _ => (q.ext e2) v' H' e' c' r' (fun z => by cases z)
    · exact xpost (args := a :: as) e2 (by rw [if_neg (by simp)]; exact q)
  · subst ev
    cases r1
    obtain ⟨fa', fd, ps, hm, hk, hb, F, bad⟩ := gf.fns f fg k2
    have ea : adr U f = fa' := by unfold adr; rw [hm]
    rw [ea]
    have F' : FnOk X.prog X.w X.K X.mg X.base (L2.CX X.prog X.w) k fa' fd ps (spF U G.call fg f ps.length) := by rw [g.P, g.w, g.K, g.mg, g.base]; exact F
    have hk' : PySem.W.keepIn X.K (.ref fa') = true := by rw [g.K]; exact hk
    have hb' : Binds X.K fd ps [] := by rw [g.K]; exact hb
    refine PySem.W.callWith_K (h₀ := X.base) I1.ok.mod.kin hk' (thn (ha.run pos pins s1 σ H1 _ I1 q) fun us s2 ⟨vs, H2, I2, r, q2⟩ => ⟨I2.kIn, ?_⟩) hs hpl
    exact run_fnS F' g.room hb' (passAt g.tk σ) I2 r (q2 ps.length bad)
end
end Py

set_option Elab.async false
set_option linter.all false
set_option maxRecDepth 100000
set_option maxHeartbeats 1000000
namespace Py
open PySem PySem.Spec PyProof.Rows L2
section
variable {U : Wd} {k : Nat} {Γ : Cxt} {X : Cx} {W : WX} {G : Gs} {ow : Ow} {H : Hp} {s : DS}
theorem base_plain {o : Expr} (h : plainO o = true) {m : Str} {env : Env} : attributeBase o m env (eval o env) = eval o env := by
  cases o with
  | Call _ _ _ _ => cases h
  | _ => rfl
theorem RpL.strs : ∀ ys : List Str, RpL U ow H (ys.map PyData.str) (ys.map V.str)
  | [] => RpL.nil
  | y :: ys => RpL.cons Rp.str (RpL.strs ys)
theorem strs_of : ∀ {ds : List D} {ys : List Str}, strsOf ds = some ys → ds = ys.map .str
  | [], ys, h => by unfold strsOf at h; cases h; rfl
  | d :: ds, ys, h => by
    cases d with
    | str x =>
      unfold strsOf at h
      cases e : strsOf ds with
      | none => rw [e] at h; cases h
      | some zs =>
        rw [e] at h
        cases h
        rw [strs_of e]
        rfl
    | _ => unfold strsOf at h; cases h
theorem RpL.to_strs : ∀ {ys : List Str} {xs : List V}, RpL U ow H (ys.map PyData.str) xs → xs = ys.map V.str
  | [], xs, h => by
    have := h.length
    cases xs with
    | nil => rfl
    | cons _ _ => simp at this
  | y :: ys, xs, h => by
    cases xs with
    | nil => have := h.length; simp at this
    | cons x xs =>
      obtain ⟨h1, h2⟩ := h.of_cons
      unfold Rp at h1
      rw [h1, RpL.to_strs h2]
      rfl
theorem pe_meth1 (g : Good U k Γ X W) {o e : Expr} {m : Str} {apos pos : Pos} {fo fe : St → M D} (ho : PE X o (tOfP U W fo)) (he : PE X e (tOfP U W fe)) (hn : notStar e = true) (hp : plainO o = true) (hl : (apos.endLine == pos.line) = true) (hm : methN m = true) :
    PE X (.Call (.Attribute o m apos) [e] [] pos) (tOf U W (fun σ => do let x ← fo σ; methD x m (fe σ)) fun _ => false) := by
  have hs : starEach [e] X.env = [(false, eval e X.env)] := starEach_ns hn
  have main : ∀ (r : V → List V → Hp → VK → Prop), (∀ ow a dy y H Q s', Hk U ow H s' → Pk U ow H dy y → Wp (meth1 a m dy) s' (PostE U ow (fun _ => false) H Q) (fun _ _ => True) → r (.str a) [y] H Q) →
      ∀ σ H Q, tOf U W (fun σ => do let x ← fo σ; methD x m (fe σ)) (fun _ => false) σ H Q → tM1 r (tOfP U W fo) (tOfP U W fe) σ H Q := by
    intro r hr σ H Q h
    obtain ⟨H0, ow0, ow, σd, s, S, w⟩ := h
    refine tOfP.step S w fun d1 v1 H1 s1 e1 S1 p1 w1 => ?_
    unfold methD at w1
    split at w1
    · rename_i a
      have hv := p1.str
      refine ⟨⟨a, hv⟩, ?_⟩
      refine tOfP.step S1 (w1.mono (fun d s' (q : PostE U ow _ H Q d s') => q.ext e1) fun x s' (q : PostX U W σ H x s') => q.ext e1) fun d2 v2 H2 s2 e2 S2 p2 w2 => ?_
      rw [hv]
      exact hr ow a d2 v2 H2 Q s2 S2.hk p2 (w2.mono (fun d s' (q : PostE U ow _ H1 Q d s') => q.ext e2) fun _ _ _ => trivial)
    · exact w1.of_fail.elim
  by_cases h1 : m = ("split" : Str)
  · subst h1
    refine PE.imp (pe_m1 F.slot_str_split F.type_str_split mt_split ho he hs (base_plain hp) hl) (main _ fun ow a dy y H Q s' hk py w => ?_)
    unfold meth1 at w
    rw [if_pos rfl] at w
    split at w
    · obtain ⟨⟨g1, g2⟩, w⟩ := w.of_guard
      refine ⟨_, _, rfl, by rw [py.str], g1, by rw [← sline_eq]; exact g2, fun p np => ?_⟩
      exact hk.newL _ (RpL.strs _) w.of_pure np
    · exact w.of_fail.elim
  · by_cases h2 : m = ("partition" : Str)
    · subst h2
      refine PE.imp (pe_m1 F.slot_str_partition F.type_str_partition mt_partition ho he hs (base_plain hp) hl) (main _ fun ow a dy y H Q s' hk py w => ?_)
      unfold meth1 at w
      rw [if_neg (by decide), if_pos rfl] at w
      split at w
      · obtain ⟨⟨g1, g2⟩, w⟩ := w.of_guard
        refine ⟨_, _, rfl, by rw [py.str], g1, by rw [← sline_eq]; exact g2, fun p np => ?_⟩
        exact hk.newT (fun _ => false) (ds := [.str _, .str _, .str _]) (RpL.strs [_, _, _]) w.of_pure rfl np
      · exact w.of_fail.elim
    · by_cases h3 : m = ("join" : Str)
      · subst h3
        refine PE.imp (pe_m1 F.slot_str_join F.type_str_join mt_join ho he hs (base_plain hp) hl) (main _ fun ow a dy y H Q s' hk py w => ?_)
        unfold meth1 at w
        rw [if_neg (by decide), if_neg (by decide), if_pos rfl] at w
        split at w
        · rename_i ys hys
          obtain ⟨g1, w⟩ := w.of_guard
          cases dy with
          | list ds =>
            have hd := strs_of (show strsOf ds = some ys from hys)
            subst hd
            obtain ⟨p, xs, rfl, hp, hr⟩ := py.list
            have := hr.to_strs
            subst this
            exact ⟨_, _, ys, rfl, rfl, .inl (SqL.of hp), g1, postV hk w.of_pure Rp.str rfl⟩
          | tuple ds =>
            have hd := strs_of (show strsOf ds = some ys from hys)
            subst hd
            obtain ⟨p, xs, rfl, hp, hr⟩ := py.tuple
            have := hr.to_strs
            subst this
            exact ⟨_, _, ys, rfl, rfl, .inr (by rw [g.K]; exact hp), g1, postV hk w.of_pure Rp.str rfl⟩
          | _ => cases hys
        · exact w.of_fail.elim
      · exact absurd (of_decide_eq_true hm) (by simp [h1, h2, h3])
end
end Py

set_option Elab.async false
set_option linter.all false
set_option maxRecDepth 100000
set_option maxHeartbeats 1000000
namespace Py
open PySem PySem.Spec PyProof.Rows L2
set_option maxHeartbeats 1000000 in
theorem meets_enumerate_newB1 {v : Value} {o : Obj} {H : Heap → Prop} (B : Begins v o H) :
    Meets (Builtin.«enumerate.__new__» ⟨[.type "enumerate", v], []⟩) (fun _ R s => H s.heap ∧
      R (.ok (.ret (.ref (s.heap.push o).objs.size))) { s with heap := (s.heap.push o).push { cls := .type "enumerate", data := .fields #[.none, .bool false, .ref s.heap.objs.size, rawInt 0, .none, .none] } }) :=
  .of_wp fun prog w A R s h => by
    obtain ⟨hp, g, d, tk, os⟩ := s; obtain ⟨h1, h⟩ := h
    have hsub := sub_enumerate
    have q1 : ∀ {A' : Around} {E : Value → Shared → Prop} {Q : Value → Shared → Prop}, Q (.ref hp.objs.size) ⟨hp.push o, g, d, tk, os⟩ → wpAny (model prog w) A' (pyIter v) Q E ⟨hp, g, d, tk, os⟩ :=
      fun q => B.iter prog w _ _ ⟨hp, g, d, tk, os⟩ _ h1 q
    wp_walk using q1
    refine wpAny_stack_any fun st => wpAny_pure ?_
    split
    · rename_i c _ _ _ _ _
      cases (c == Value.type "enumerate")
      · wp_walk using q1
        exact ⟨_, rfl, h⟩
      · wp_walk using q1
        exact ⟨_, rfl, h⟩
    · wp_walk using q1
      exact ⟨_, rfl, h⟩
theorem enum_begins1 {prog : Program} {w : World} {A : Around} {E : Value → Shared → Prop} {s : Shared} {v : Value} {o : Obj} {H : Heap → Prop} {Q : Value → Shared → Prop} (B : Begins v o H) (h1 : H s.heap)
    (h : ∀ h', IsEnum h' (s.heap.objs.size + 1) s.heap.objs.size 0 .none → h'.get? s.heap.objs.size = some o → h'.objs.size = s.heap.objs.size + 2 →
      (∀ b o, s.heap.get? b = some o → h'.get? b = some o) → Q (.ref (s.heap.objs.size + 1)) { s with heap := h' }) :
    wpAny (model prog w) A (call (.type "enumerate") [v]) Q E s := by
  refine callType_new F.called_enumerate (by decide) (F.typeCall_enumerate_1 _) (F.newCall_enumerate_1 _) (fun obj => F.args_object_init_2 obj _) F.entry_enumerate_new
    (meets_enumerate_newB1 B) ⟨h1, ?_⟩
  have hz : (s.heap.push o).objs.size = s.heap.objs.size + 1 := Heap.size_push ..
  show _ ∧ _
  rw [hz]
  have he : IsEnum ((s.heap.push o).push { cls := .type "enumerate", data := .fields #[.none, .bool false, .ref s.heap.objs.size, rawInt 0, .none, .none] }) (s.heap.objs.size + 1) s.heap.objs.size 0 .none := by
    have := Heap.get?_push_size (s.heap.push o) (o := { cls := .type "enumerate", data := .fields #[.none, .bool false, .ref s.heap.objs.size, rawInt 0, .none, .none] }) rfl
    rw [hz] at this; exact this
  refine ⟨⟨_, he, rfl⟩, h _ he (Heap.get?_push_of_some _ (Heap.get?_push_size _ B.free)) (by rw [Heap.size_push, hz]) fun b o x => Heap.get?_push_of_some _ (Heap.get?_push_of_some _ x)⟩

/-- the list at a as it stands at each turn, each item in a new pair with a count -/
def IteFL (K : PySem.W.Frag) (k0 : Int) (a : Addr) : It :=
  ⟨fun i H => ∃ (xs : List V) (x : V), SqL K H a xs ∧ xs[i]? = some x, fun i H v H' => ∃ T x, v = .ref T ∧ H T = none ∧ H' = upd H T (.tup [.int (k0 + (i : Nat)), x]) ∧ ∀ xs, SqL K H a xs → xs[i]? = some x, fun i H => ∃ xs : List V, SqL K H a xs ∧ xs.length = i⟩
theorem turn_enumFL {P : Program} {w : World} {K : PySem.W.Frag} {elts : List Expr} {kk : Nat} {tpos : Pos} (k0 : Int) (a e it : Addr) (ha : a ≠ it) (hae : a ≠ e) :
    Turn P w K (.Tuple elts kk tpos) (IteFL K k0 a) [e, it] e (fun i h => (∃ old, IsEnum h e it (k0 + ((i : Nat) : Int)) old) ∧ h.IsListIter it a i ∧ e ≠ it) where
  mem := by simp
  obj := fun i h st b hb => by
    obtain ⟨⟨old, he⟩, ⟨o, ho, hc, hd⟩, _⟩ := st
    have e' : b = e ∨ b = it := by simpa using hb
    rcases e' with z | z
    · rw [z]; exact ⟨_, he, fun v q => nomatch q⟩
    · rw [z]; exact ⟨o, ho, fun v q => by rw [hd] at q; cases q⟩
  keep := fun i h h' st k => let ⟨⟨old, he⟩, hi, hne⟩ := st; ⟨⟨old, k e (by simp) _ he⟩, hi.at fun o q => k it (by simp) o q, hne⟩
  item := by
    intro X hP hw hK hc i pins s σ H E I hf st hg
    subst hP hw hK
    obtain ⟨⟨old, he⟩, hit, hne⟩ := st
    obtain ⟨xs, x, hq, hx⟩ := hg
    obtain ⟨its, rv, p, hz⟩ := I.list hq
    obtain ⟨u, hu, ru⟩ := rv.get hx
    have hel : e < s.heap.objs.size := Heap.lt_size he
    have hil : it < s.heap.objs.size := by obtain ⟨_, q, _⟩ := hit; exact Heap.lt_size q
    have hlt : i < its.toArray.size := by
      have := (List.getElem?_eq_some_iff.mp hu).1
      simpa using this
    have D := Draws.list (prog := X.prog) (w := X.w) (A := X.A.in1) (I.ok.hd hc) it a ha its.toArray
    have hef : e ∉ [it, a] := by
      intro z
      simp at z
      rcases z with z | z
      · exact hne z
      · exact hae z.symm
    refine wpAny_pyNext_enum_itemC D he ⟨hit, p.isList⟩ hlt hne hef fun y h' tk hy ho hit' hT hsz hk => ?_
    have eu : y = u := by
      have hu' : its.toArray[i]? = some u := by simpa using hu
      rw [hu'] at hy; exact (Option.some.inj hy).symm
    subst eu
    refine ⟨_, rfl, wpAny_letOwnedTupleGo_enum (s := { s with heap := h', toks := tk + 1 }) ho fun h'' he' sb => ?_⟩
    have hT2 : h''.get? s.heap.objs.size = some { cls := .type "tuple", data := .seq #[.int (k0 + (i : Int)) tk, y] } := (sb.2 _ (Nat.ne_of_gt hel)).trans hT
    have new : ObjOk X.prog X.w (upd H s.heap.objs.size (.tup [.int (k0 + (i : Nat)), x])) h'' s.heap.objs.size (.tup [.int (k0 + (i : Nat)), x]) :=
      ⟨by show 2 ≤ sizeLine; decide, [.int (k0 + (i : Int)) tk, y], .cons ⟨_, rfl⟩ (.cons ru .nil), ⟨_, hT2, rfl, _, rfl⟩⟩
    have I1 : Inv X pins σ (upd H s.heap.objs.size (.tup [.int (k0 + (i : Nat)), x])) { s with heap := h'', toks := tk + 1 } :=
      I.turnedNew (ch := [e, it]) (fun b ob hb q => (sb.2 b (fun z => hb (by simp [z]))).trans (hk b ob (fun z => hb (by simp [z])) (fun z => hb (by simp [z])) q)) hf (Nat.le_refl _) new
    refine ⟨.ref s.heap.objs.size, _, I1, rfl, ⟨_, x, rfl, I.hok.fresh (Nat.le_refl _), rfl, fun ys hy => by rw [I.list_inj hy hq]; exact hx⟩, ⟨⟨y, ?_⟩, hit'.1.at fun o q => (sb.2 it (Ne.symm hne)).trans q, hne⟩, fun b hb => ?_⟩
    · have e1 : k0 + ((i + 1 : Nat) : Int) = k0 + (i : Int) + 1 := by omega
      rw [e1]; exact he'
    · have hb' : b < s.heap.objs.size := by
        have e' : b = e ∨ b = it := by simpa using hb
        rcases e' with z | z
        · rw [z]; exact hel
        · rw [z]; exact hil
      rw [upd_ne (Nat.ne_of_lt hb')]
      exact (hf b hb).1
  done := by
    intro X hP hw hK hc i pins s σ H E I hf st hg
    subst hP hw hK
    obtain ⟨⟨old, he⟩, hit, hne⟩ := st
    obtain ⟨xs, hq, hx⟩ := hg
    obtain ⟨its, rv, p, hz⟩ := I.list hq
    obtain ⟨f0, f1, f2, f3, f4, f5⟩ := hf it (by simp)
    have hl := rv.length
    have hi : i = its.toArray.size := by simp; omega
    subst hi
    have D := Draws.list (prog := X.prog) (w := X.w) (A := X.A.in1) (I.ok.hd hc) it a ha its.toArray
    exact wpAny_pyNext_enum_endD D he ⟨hit, p.isList⟩ fun h' eb => ⟨rfl, I.turned (t' := s.toks) (fun b o hb q => eb b o hb q) f0 f1 f3 f4 f5⟩
  self := fun A i s Q E st h => let ⟨⟨_, he⟩, _⟩ := st; wpAny_pyIter_enum he h

theorem enum1_tailL {X : Cx} {pins : List (Addr × Obj)} {σ : L2.St} {H1 : Hp} {s1 : Shared} {elts : List Expr} {kk : Nat} {tpos : Pos} {a : Addr} {xs : List V} {R : It → Hp → Prop} (I1 : Inv X pins σ H1 s1) (hq : SqL X.K H1 a xs) (q : R (IteFL X.K 0 a) H1) :
    wpAny (model X.prog X.w) X.A (call (.type "enumerate") [.ref a]) (fun v s2 => wpAny (model X.prog X.w) X.A (pyIter v) (PIE X pins σ (.Tuple elts kk tpos) R) X.xe s2) X.xe s1 := by
  obtain ⟨its, rv, p', hz⟩ := I1.list hq
  have hal : a < s1.heap.objs.size := p'.lt
  refine enum_begins1 (begins_list a its.toArray) p'.isList fun h' he hit hsz hk => wpAny_pyIter_enum he ?_
  have I2 : Inv X pins σ H1 { s1 with heap := h' } := I1.kept (t' := s1.toks) hk
  refine ⟨s1.heap.objs.size + 1, [s1.heap.objs.size + 1, s1.heap.objs.size], _, _, H1, rfl, I2, turn_enumFL 0 a (s1.heap.objs.size + 1) s1.heap.objs.size (Nat.ne_of_lt hal) (Nat.ne_of_lt (Nat.lt_succ_of_lt hal)), ⟨⟨.none, by simpa using he⟩, ⟨_, hit, rfl, rfl⟩, Nat.succ_ne_self _⟩, fun b hb => ?_, q⟩
  have e' : b = s1.heap.objs.size + 1 ∨ b = s1.heap.objs.size := by simpa using hb
  have hle : s1.heap.objs.size ≤ b := by
    rcases e' with z | z
    · rw [z]; exact Nat.le_add_right _ _
    · rw [z]; exact Nat.le_refl _
  exact I1.fpOk hle (I1.hok.fresh hle)
theorem enum2_tailL {X : Cx} {pins : List (Addr × Obj)} {σ : L2.St} {H1 : Hp} {s1 : Shared} {elts : List Expr} {kk : Nat} {tpos : Pos} {a : Addr} {xs : List V} {k : Int} {t : Tok} {R : It → Hp → Prop} (I1 : Inv X pins σ H1 s1) (hq : SqL X.K H1 a xs) (k1 : -(2 ^ 63) ≤ k) (k2 : k < 2 ^ 63) (q : R (IteFL X.K k a) H1) :
    wpAny (model X.prog X.w) X.A (call (.type "enumerate") [.ref a, .int k t]) (fun v s2 => wpAny (model X.prog X.w) X.A (pyIter v) (PIE X pins σ (.Tuple elts kk tpos) R) X.xe s2) X.xe s1 := by
  obtain ⟨its, rv, p', hz⟩ := I1.list hq
  have hal : a < s1.heap.objs.size := p'.lt
  refine enum_begins (begins_list a its.toArray) p'.isList k1 k2 fun h' he hit hsz hk => wpAny_pyIter_enum he ?_
  have I2 : Inv X pins σ H1 { s1 with heap := h' } := I1.kept (t' := s1.toks) hk
  refine ⟨s1.heap.objs.size + 1, [s1.heap.objs.size + 1, s1.heap.objs.size], _, _, H1, rfl, I2, turn_enumFL k a (s1.heap.objs.size + 1) s1.heap.objs.size (Nat.ne_of_lt hal) (Nat.ne_of_lt (Nat.lt_succ_of_lt hal)), ⟨⟨.none, by simpa using he⟩, ⟨_, hit, rfl, rfl⟩, Nat.succ_ne_self _⟩, fun b hb => ?_, q⟩
  have e' : b = s1.heap.objs.size + 1 ∨ b = s1.heap.objs.size := by simpa using hb
  have hle : s1.heap.objs.size ≤ b := by
    rcases e' with z | z
    · rw [z]; exact Nat.le_add_right _ _
    · rw [z]; exact Nat.le_refl _
  exact I1.fpOk hle (I1.hok.fresh hle)

/-- the tuple at a as it stands at each turn, each item in a new pair with a count -/
def IteFT (K : PySem.W.Frag) (k0 : Int) (a : Addr) : It :=
  ⟨fun i H => ∃ (xs : List V) (x : V), SqT K H a xs ∧ xs[i]? = some x, fun i H v H' => ∃ T x, v = .ref T ∧ H T = none ∧ H' = upd H T (.tup [.int (k0 + (i : Nat)), x]) ∧ ∀ xs, SqT K H a xs → xs[i]? = some x, fun i H => ∃ xs : List V, SqT K H a xs ∧ xs.length = i⟩
theorem turn_enumFT {P : Program} {w : World} {K : PySem.W.Frag} {elts : List Expr} {kk : Nat} {tpos : Pos} (k0 : Int) (a e it : Addr) (ha : a ≠ it) (hae : a ≠ e) :
    Turn P w K (.Tuple elts kk tpos) (IteFT K k0 a) [e, it] e (fun i h => (∃ old, IsEnum h e it (k0 + ((i : Nat) : Int)) old) ∧ h.IsTupleIter it a i ∧ e ≠ it) where
  mem := by simp
  obj := fun i h st b hb => by
    obtain ⟨⟨old, he⟩, ⟨o, ho, hc, hd⟩, _⟩ := st
    have e' : b = e ∨ b = it := by simpa using hb
    rcases e' with z | z
    · rw [z]; exact ⟨_, he, fun v q => nomatch q⟩
    · rw [z]; exact ⟨o, ho, fun v q => by rw [hd] at q; cases q⟩
  keep := fun i h h' st k => let ⟨⟨old, he⟩, hi, hne⟩ := st; ⟨⟨old, k e (by simp) _ he⟩, hi.at fun o q => k it (by simp) o q, hne⟩
  item := by
    intro X hP hw hK hc i pins s σ H E I hf st hg
    subst hP hw hK
    obtain ⟨⟨old, he⟩, hit, hne⟩ := st
    obtain ⟨xs, x, hq, hx⟩ := hg
    obtain ⟨its, rv, p, hz⟩ := I.tuple hq
    obtain ⟨u, hu, ru⟩ := rv.get hx
    have hel : e < s.heap.objs.size := Heap.lt_size he
    have hil : it < s.heap.objs.size := by obtain ⟨_, q, _⟩ := hit; exact Heap.lt_size q
    have hlt : i < its.toArray.size := by
      have := (List.getElem?_eq_some_iff.mp hu).1
      simpa using this
    have D := Draws.tuple (prog := X.prog) (w := X.w) (A := X.A.in1) (I.ok.hd hc) it a ha its.toArray
    have hef : e ∉ [it, a] := by
      intro z
      simp at z
      rcases z with z | z
      · exact hne z
      · exact hae z.symm
    refine wpAny_pyNext_enum_itemC D he ⟨hit, p⟩ hlt hne hef fun y h' tk hy ho hit' hT hsz hk => ?_
    have eu : y = u := by
      have hu' : its.toArray[i]? = some u := by simpa using hu
      rw [hu'] at hy; exact (Option.some.inj hy).symm
    subst eu
    refine ⟨_, rfl, wpAny_letOwnedTupleGo_enum (s := { s with heap := h', toks := tk + 1 }) ho fun h'' he' sb => ?_⟩
    have hT2 : h''.get? s.heap.objs.size = some { cls := .type "tuple", data := .seq #[.int (k0 + (i : Int)) tk, y] } := (sb.2 _ (Nat.ne_of_gt hel)).trans hT
    have new : ObjOk X.prog X.w (upd H s.heap.objs.size (.tup [.int (k0 + (i : Nat)), x])) h'' s.heap.objs.size (.tup [.int (k0 + (i : Nat)), x]) :=
      ⟨by show 2 ≤ sizeLine; decide, [.int (k0 + (i : Int)) tk, y], .cons ⟨_, rfl⟩ (.cons ru .nil), ⟨_, hT2, rfl, _, rfl⟩⟩
    have I1 : Inv X pins σ (upd H s.heap.objs.size (.tup [.int (k0 + (i : Nat)), x])) { s with heap := h'', toks := tk + 1 } :=
      I.turnedNew (ch := [e, it]) (fun b ob hb q => (sb.2 b (fun z => hb (by simp [z]))).trans (hk b ob (fun z => hb (by simp [z])) (fun z => hb (by simp [z])) q)) hf (Nat.le_refl _) new
    refine ⟨.ref s.heap.objs.size, _, I1, rfl, ⟨_, x, rfl, I.hok.fresh (Nat.le_refl _), rfl, fun ys hy => by rw [I.tuple_inj hy hq]; exact hx⟩, ⟨⟨y, ?_⟩, hit'.1.at fun o q => (sb.2 it (Ne.symm hne)).trans q, hne⟩, fun b hb => ?_⟩
    · have e1 : k0 + ((i + 1 : Nat) : Int) = k0 + (i : Int) + 1 := by omega
      rw [e1]; exact he'
    · have hb' : b < s.heap.objs.size := by
        have e' : b = e ∨ b = it := by simpa using hb
        rcases e' with z | z
        · rw [z]; exact hel
        · rw [z]; exact hil
      rw [upd_ne (Nat.ne_of_lt hb')]
      exact (hf b hb).1
  done := by
    intro X hP hw hK hc i pins s σ H E I hf st hg
    subst hP hw hK
    obtain ⟨⟨old, he⟩, hit, hne⟩ := st
    obtain ⟨xs, hq, hx⟩ := hg
    obtain ⟨its, rv, p, hz⟩ := I.tuple hq
    obtain ⟨f0, f1, f2, f3, f4, f5⟩ := hf it (by simp)
    have hl := rv.length
    have hi : i = its.toArray.size := by simp; omega
    subst hi
    have D := Draws.tuple (prog := X.prog) (w := X.w) (A := X.A.in1) (I.ok.hd hc) it a ha its.toArray
    exact wpAny_pyNext_enum_endD D he ⟨hit, p⟩ fun h' eb => ⟨rfl, I.turned (t' := s.toks) (fun b o hb q => eb b o hb q) f0 f1 f3 f4 f5⟩
  self := fun A i s Q E st h => let ⟨⟨_, he⟩, _⟩ := st; wpAny_pyIter_enum he h

theorem enum1_tailT {X : Cx} {pins : List (Addr × Obj)} {σ : L2.St} {H1 : Hp} {s1 : Shared} {elts : List Expr} {kk : Nat} {tpos : Pos} {a : Addr} {xs : List V} {R : It → Hp → Prop} (I1 : Inv X pins σ H1 s1) (hq : SqT X.K H1 a xs) (q : R (IteFT X.K 0 a) H1) :
    wpAny (model X.prog X.w) X.A (call (.type "enumerate") [.ref a]) (fun v s2 => wpAny (model X.prog X.w) X.A (pyIter v) (PIE X pins σ (.Tuple elts kk tpos) R) X.xe s2) X.xe s1 := by
  obtain ⟨its, rv, p', hz⟩ := I1.tuple hq
  have hal : a < s1.heap.objs.size := (by obtain ⟨o, ho, _⟩ := p'; exact Heap.lt_size ho)
  refine enum_begins1 (begins_tuple a its.toArray) p' fun h' he hit hsz hk => wpAny_pyIter_enum he ?_
  have I2 : Inv X pins σ H1 { s1 with heap := h' } := I1.kept (t' := s1.toks) hk
  refine ⟨s1.heap.objs.size + 1, [s1.heap.objs.size + 1, s1.heap.objs.size], _, _, H1, rfl, I2, turn_enumFT 0 a (s1.heap.objs.size + 1) s1.heap.objs.size (Nat.ne_of_lt hal) (Nat.ne_of_lt (Nat.lt_succ_of_lt hal)), ⟨⟨.none, by simpa using he⟩, ⟨_, hit, rfl, rfl⟩, Nat.succ_ne_self _⟩, fun b hb => ?_, q⟩
  have e' : b = s1.heap.objs.size + 1 ∨ b = s1.heap.objs.size := by simpa using hb
  have hle : s1.heap.objs.size ≤ b := by
    rcases e' with z | z
    · rw [z]; exact Nat.le_add_right _ _
    · rw [z]; exact Nat.le_refl _
  exact I1.fpOk hle (I1.hok.fresh hle)
theorem enum2_tailT {X : Cx} {pins : List (Addr × Obj)} {σ : L2.St} {H1 : Hp} {s1 : Shared} {elts : List Expr} {kk : Nat} {tpos : Pos} {a : Addr} {xs : List V} {k : Int} {t : Tok} {R : It → Hp → Prop} (I1 : Inv X pins σ H1 s1) (hq : SqT X.K H1 a xs) (k1 : -(2 ^ 63) ≤ k) (k2 : k < 2 ^ 63) (q : R (IteFT X.K k a) H1) :
    wpAny (model X.prog X.w) X.A (call (.type "enumerate") [.ref a, .int k t]) (fun v s2 => wpAny (model X.prog X.w) X.A (pyIter v) (PIE X pins σ (.Tuple elts kk tpos) R) X.xe s2) X.xe s1 := by
  obtain ⟨its, rv, p', hz⟩ := I1.tuple hq
  have hal : a < s1.heap.objs.size := (by obtain ⟨o, ho, _⟩ := p'; exact Heap.lt_size ho)
  refine enum_begins (begins_tuple a its.toArray) p' k1 k2 fun h' he hit hsz hk => wpAny_pyIter_enum he ?_
  have I2 : Inv X pins σ H1 { s1 with heap := h' } := I1.kept (t' := s1.toks) hk
  refine ⟨s1.heap.objs.size + 1, [s1.heap.objs.size + 1, s1.heap.objs.size], _, _, H1, rfl, I2, turn_enumFT k a (s1.heap.objs.size + 1) s1.heap.objs.size (Nat.ne_of_lt hal) (Nat.ne_of_lt (Nat.lt_succ_of_lt hal)), ⟨⟨.none, by simpa using he⟩, ⟨_, hit, rfl, rfl⟩, Nat.succ_ne_self _⟩, fun b hb => ?_, q⟩
  have e' : b = s1.heap.objs.size + 1 ∨ b = s1.heap.objs.size := by simpa using hb
  have hle : s1.heap.objs.size ≤ b := by
    rcases e' with z | z
    · rw [z]; exact Nat.le_add_right _ _
    · rw [z]; exact Nat.le_refl _
  exact I1.fpOk hle (I1.hok.fresh hle)

def iEnum1 (K : PySem.W.Frag) (ta : TA) : TI := fun σ H R => ta σ H fun vs H1 => ∃ a xs, vs = [.ref a] ∧ ((SqL K H1 a xs ∧ R (IteFL K 0 a) H1) ∨ (SqT K H1 a xs ∧ R (IteFT K 0 a) H1))
theorem pi_enum1 {X : Cx} {e : Expr} {ta : TA} {p pos tpos : Pos} {elts : List Expr} {kk : Nat} (hg : L2.Gl X "enumerate") (hm : X.mg "enumerate" = none) (ha : PA X [e] ta)
    (hs : starEach [e] X.env = (false, eval e X.env) :: starEach [] X.env) (hpl : (backTo pos (starEach [] X.env)).any (·.1) = false) :
    PI X (.Tuple elts kk tpos) (.Call (.Name "enumerate" p) [e] [] pos) (iEnum1 X.K ta) := by
  refine ⟨fun pins s σ H R I h => ?_⟩
  refine Call_ (ld_blt I hg hm boot_enumerate (PyProof.Rows.callWith_type1 (thn (ha.run pos pins s σ H _ I h) fun us s1 ⟨vs, H1, I1, r1, q1⟩ => ?_) hs hpl))
  obtain ⟨a, xs, ex, q⟩ := q1
  subst ex
  cases r1 with
  | cons r rr =>
    cases rr
    cases r
    rcases q with ⟨hq, q⟩ | ⟨hq, q⟩
    · exact enum1_tailL I1 hq q
    · exact enum1_tailT I1 hq q
def iEnum2 (K : PySem.W.Frag) (ta : TA) : TI := fun σ H R => ta σ H fun vs H1 => ∃ a xs k, vs = [.ref a, .int k] ∧ -(2 ^ 63) ≤ k ∧ k < 2 ^ 63 ∧ ((SqL K H1 a xs ∧ R (IteFL K k a) H1) ∨ (SqT K H1 a xs ∧ R (IteFT K k a) H1))
theorem pi_enum2 {X : Cx} {e e2 : Expr} {ta : TA} {p pos tpos : Pos} {elts : List Expr} {kk : Nat} (hg : L2.Gl X "enumerate") (hm : X.mg "enumerate" = none) (ha : PA X [e, e2] ta)
    (hs : starEach [e, e2] X.env = (false, eval e X.env) :: starEach [e2] X.env) (hpl : (backTo pos (starEach [e2] X.env)).any (·.1) = false) :
    PI X (.Tuple elts kk tpos) (.Call (.Name "enumerate" p) [e, e2] [] pos) (iEnum2 X.K ta) := by
  refine ⟨fun pins s σ H R I h => ?_⟩
  refine Call_ (ld_blt I hg hm boot_enumerate (PyProof.Rows.callWith_type1 (thn (ha.run pos pins s σ H _ I h) fun us s1 ⟨vs, H1, I1, r1, q1⟩ => ?_) hs hpl))
  obtain ⟨a, xs, k, ex, k1, k2, q⟩ := q1
  subst ex
  cases r1 with
  | cons r rr =>
    cases rr with
    | cons r' rr =>
      cases rr
      cases r
      obtain ⟨t, rfl⟩ := r'
      rcases q with ⟨hq, q⟩ | ⟨hq, q⟩
      · exact enum2_tailL I1 hq k1 k2 q
      · exact enum2_tailT I1 hq k1 k2 q

/-! ### what is walked, by data -/
/-- J hands on these data, as long as Rl -/
def ItOk (U : Wd) (Rl : Ow → Hp → Prop) (J : It) (items : List D) : Prop := ∀ ow' H2 s', Rl ow' H2 → Hk U ow' H2 s' →
  (∀ (i : Nat) d, items[i]? = some d → J.go i H2 ∧ ∀ x H3, J.yld i H2 x H3 → Ext U H2 H3 ∧ Cap U H3 s' ∧ Rp U ow' H3 d x) ∧ J.stop items.length H2
def tOfI (U : Wd) (W : WX) (f : St → M (List D)) (Rl : Ow → Hp → Ow → Hp → Prop) : TI := fun σ H R => ∃ H0 ow0 ow σd s, SR U H0 ow0 ow σ H σd s ∧
  Wp (f σd) s (fun items s' => ∀ J H', Ext U H H' → Cap U H' s' → ItOk U (Rl ow H') J items → R J H') (PostX U W σ H)
def tOfQ (U : Wd) (W : WX) (Src : Ow → Hp → D → V → Prop) (f : St → M D) : TE := fun σ H Q => ∃ H0 ow0 ow σd s, SR U H0 ow0 ow σ H σd s ∧
  Wp (f σd) s (fun d s' => ∀ v H', Ext U H H' → Cap U H' s' → Src ow H' d v → Q v H') (PostX U W σ H)
/-- a source that stays, as long as Rl -/
structure SrcOk (U : Wd) (Rl : Ow → Hp → Ow → Hp → Prop) (Src : Ow → Hp → D → V → Prop) : Prop where
  pk : ∀ ow H d v, Src ow H d v → Pk U ow H d v
  ext : ∀ ow H H' d v, Ext U H H' → Src ow H d v → Src ow H' d v
  lst : ∀ ow H ds v, Src ow H (.list ds) v → ∃ a xs, v = .ref a ∧ H a = some (.lst xs) ∧ ∀ ow' H2, Rl ow H ow' H2 → H2 a = some (.lst xs) ∧ RpL U ow' H2 ds xs
  tup : ∀ ow H ds v, Src ow H (.tuple ds) v → ∃ a xs, v = .ref a ∧ SqT U.K H a xs ∧ ∀ ow' H2, Rl ow H ow' H2 → SqT U.K H2 a xs ∧ RpL U ow' H2 ds xs
  self : ∀ ow H, Rl ow H ow H
def RlE (U : Wd) : Ow → Hp → Ow → Hp → Prop := fun ow H ow' H2 => (∀ a u, H a = some u → ow' a = ow a) ∧ Ext U H H2
theorem RlE.keep {U : Wd} {ow ow' : Ow} {H H2 : Hp} (h : RlE U ow H ow' H2) : Keep U ow ow' H H2 := fun a u hc ho e => ⟨h.2 a u hc e, by rw [h.1 a u e]; exact ho⟩
def RlK (U : Wd) : Ow → Hp → Ow → Hp → Prop := fun ow H ow' H2 => Keep U ow ow' H H2
theorem srcE (U : Wd) : SrcOk U (RlE U) (Pk U) where
  pk := fun _ _ _ _ h => h
  ext := fun _ _ _ _ _ e h => h.ext e
  lst := fun ow H ds v h => by
    rcases h with h | ⟨i, a, u, e2, h1, h2, h3, r⟩
    · unfold Rp at h
      obtain ⟨a, xs, e, n, r⟩ := h
      exact ⟨a, xs, e, n.1, fun ow' H2 h => ⟨h.2 a _ n.2.2 n.1, RpL.mono (RlE.keep h) ds xs r⟩⟩
    · obtain ⟨xs, eu, r2⟩ := r.list
      subst eu
      exact ⟨a, xs, e2, h1, fun ow' H2 h => ⟨h.2 a _ h3 h1, RpL.mono (RlE.keep h) ds xs r2⟩⟩
  tup := fun ow H ds v h => by
    rcases h with h | ⟨i, h⟩
    · unfold Rp at h
      obtain ⟨a, xs, e, n, r⟩ := h
      refine ⟨a, xs, e, n.elim (fun n => .inl (.inl n.1)) (fun n => .inr n), fun ow' H2 h => ?_⟩
      exact ⟨n.elim (fun n => .inl (.inl (h.2 a _ n.2.2 n.1))) (fun n => .inr n), RpL.mono (RlE.keep h) ds xs r⟩
    · cases h.soft
  self := fun _ _ => ⟨fun _ _ _ => rfl, Ext.refl⟩
theorem srcK (U : Wd) : SrcOk U (RlK U) (Rp U) where
  pk := fun _ _ _ _ h => .inl h
  ext := fun _ _ _ _ _ e h => h.ext e
  lst := fun ow H ds v h => by
    unfold Rp at h
    obtain ⟨a, xs, e, n, r⟩ := h
    exact ⟨a, xs, e, n.1, fun ow' H2 k => ⟨(k a _ n.2.2 n.2.1 n.1).1, RpL.mono k ds xs r⟩⟩
  tup := fun ow H ds v h => by
    unfold Rp at h
    obtain ⟨a, xs, e, n, r⟩ := h
    exact ⟨a, xs, e, n.elim (fun n => .inl (.inl n.1)) (fun n => .inr n), fun ow' H2 k => ⟨n.elim (fun n => .inl (.inl (k a _ n.2.2 n.2.1 n.1).1)) (fun n => .inr n), RpL.mono k ds xs r⟩⟩
  self := fun _ _ => fun _ _ _ ho h => ⟨h, ho⟩
theorem PI.imp {X : Cx} {tg e : Expr} {t t' : TI} (h : PI X tg e t) (i : ∀ σ H R, t' σ H R → t σ H R) : PI X tg e t' := ⟨fun pins s σ H R I q => h.run pins s σ H R I (i σ H R q)⟩
section
variable {U : Wd} {k : Nat} {Γ : Cxt} {X : Cx} {W : WX} {G : Gs} {ow : Ow} {H : Hp} {s : DS} {Rl : Ow → Hp → Ow → Hp → Prop} {Src : Ow → Hp → D → V → Prop}
theorem item_get {ds : List D} {xs : List V} {i : Nat} {d : D} {x : V} (r : RpL U ow H ds xs) (hd : ds[i]? = some d) (hx : xs[i]? = some x) : Rp U ow H d x := by
  obtain ⟨y, h1, h2⟩ := r.get hd
  rw [hx] at h1
  cases h1
  exact h2
theorem len_get {ds : List D} {xs : List V} {i : Nat} {d : D} (r : RpL U ow H ds xs) (hd : ds[i]? = some d) : ∃ x, xs[i]? = some x := by
  obtain ⟨y, h1, h2⟩ := r.get hd
  exact ⟨y, h1⟩
theorem it_list (hK : X.K = U.K) {a : Addr} {xs : List V} {ds : List D} (h : ∀ ow' H2, Rl ow H ow' H2 → H2 a = some (.lst xs) ∧ RpL U ow' H2 ds xs) : ItOk U (Rl ow H) (Itl X.K a) ds := by
  intro ow' H2 s' hr hk
  obtain ⟨h1, r⟩ := h ow' H2 hr
  refine ⟨fun i d hd => ?_, ⟨xs, .inl (.inl h1), by rw [r.length]; exact Nat.le_refl _⟩⟩
  obtain ⟨x, hx⟩ := len_get r hd
  refine ⟨⟨xs, x, .inl (.inl h1), hx⟩, fun y H3 ⟨e, hy⟩ => ?_⟩
  subst e
  have := hy xs (.inl (.inl h1))
  exact ⟨Ext.refl, hk.cap, item_get r hd this⟩
theorem it_tup (hK : X.K = U.K) {a : Addr} {xs : List V} {ds : List D} (h : ∀ ow' H2, Rl ow H ow' H2 → SqT U.K H2 a xs ∧ RpL U ow' H2 ds xs) : ItOk U (Rl ow H) (Itt X.K a) ds := by
  intro ow' H2 s' hr hk
  obtain ⟨h1, r⟩ := h ow' H2 hr
  rw [← hK] at h1
  refine ⟨fun i d hd => ?_, ⟨xs, h1, by rw [r.length]; exact Nat.le_refl _⟩⟩
  obtain ⟨x, hx⟩ := len_get r hd
  refine ⟨⟨xs, x, h1, hx⟩, fun y H3 ⟨e, hy⟩ => ?_⟩
  subst e
  exact ⟨Ext.refl, hk.cap, item_get r hd (hy xs h1)⟩
theorem it_rng {lo : Int} {n : Nat} : ItOk U (Rl ow H) (Itr lo n) (rangeD lo n) := by
  intro ow' H2 s' hr hk
  have hl : (rangeD lo n).length = n := by unfold rangeD; simp
  refine ⟨fun i d hd => ?_, by rw [hl]; exact Nat.le_refl _⟩
  have hi : i < n := by have := (List.getElem?_eq_some_iff.mp hd).1; rw [hl] at this; exact this
  have hd' : d = .int (lo + (i : Nat)) := by
    unfold rangeD at hd
    rw [List.getElem?_map, List.getElem?_range hi] at hd
    exact (Option.some.inj hd).symm
  refine ⟨hi, fun y H3 ⟨e, hy⟩ => ?_⟩
  subst e hy hd'
  exact ⟨Ext.refl, hk.cap, Rp.int⟩
theorem enumD_get : ∀ {ds : List D} {k : Int} {i : Nat} {d : D}, (enumD k ds)[i]? = some d → ∃ e, ds[i]? = some e ∧ d = .tuple [.int (k + (i : Nat)), e]
  | [], k, i, d, h => by simp [enumD] at h
  | x :: ds, k, 0, d, h => by
    simp [enumD] at h
    exact ⟨x, rfl, by rw [← h]; simp⟩
  | x :: ds, k, i + 1, d, h => by
    simp only [enumD, List.getElem?_cons_succ] at h
    obtain ⟨e, h1, h2⟩ := enumD_get h
    refine ⟨e, by simpa using h1, ?_⟩
    rw [h2]
    congr 2
    have : k + 1 + ((i : Nat) : Int) = k + ((i + 1 : Nat) : Int) := by omega
    rw [this]
theorem enumD_len : ∀ (ds : List D) (k : Int), (enumD k ds).length = ds.length
  | [], k => rfl
  | x :: ds, k => by simp only [enumD, List.length_cons]; rw [enumD_len ds]
theorem it_new2 (hk : Hk U ow H s) {T : Addr} (hT : H T = none) {x y : V} {d e : D} (hx : Rp U ow H d x) (hy : Rp U ow H e y) : Ext U H (upd H T (.tup [x, y])) ∧ Cap U (upd H T (.tup [x, y])) s ∧ Rp U ow (upd H T (.tup [x, y])) (.tuple [d, e]) (.ref T) :=
  ⟨Ext.new hT, hk.cap.new hT, Rp.newT (RpL.cons hx (RpL.cons hy RpL.nil)) hT (hk.nocap hT) (hk.noow hT)⟩
theorem it_enumL (hK : X.K = U.K) {a : Addr} {xs : List V} {ds : List D} {k0 : Int} (h : ∀ ow' H2, Rl ow H ow' H2 → H2 a = some (.lst xs) ∧ RpL U ow' H2 ds xs) : ItOk U (Rl ow H) (IteFL X.K k0 a) (enumD k0 ds) := by
  intro ow' H2 s' hr hk
  obtain ⟨h1, r⟩ := h ow' H2 hr
  refine ⟨fun i d hd => ?_, ⟨xs, .inl (.inl h1), by rw [enumD_len, r.length]⟩⟩
  obtain ⟨e, he, hde⟩ := enumD_get hd
  obtain ⟨x, hx⟩ := len_get r he
  refine ⟨⟨xs, x, .inl (.inl h1), hx⟩, fun y H3 ⟨T, x', ey, hT, eH, hy⟩ => ?_⟩
  have hx' := hy xs (.inl (.inl h1))
  subst ey eH hde
  exact it_new2 hk hT Rp.int (item_get r he hx')
theorem it_enumT (hK : X.K = U.K) {a : Addr} {xs : List V} {ds : List D} {k0 : Int} (h : ∀ ow' H2, Rl ow H ow' H2 → SqT U.K H2 a xs ∧ RpL U ow' H2 ds xs) : ItOk U (Rl ow H) (IteFT X.K k0 a) (enumD k0 ds) := by
  intro ow' H2 s' hr hk
  obtain ⟨h1, r⟩ := h ow' H2 hr
  rw [← hK] at h1
  refine ⟨fun i d hd => ?_, ⟨xs, h1, by rw [enumD_len, r.length]⟩⟩
  obtain ⟨e, he, hde⟩ := enumD_get hd
  obtain ⟨x, hx⟩ := len_get r he
  refine ⟨⟨xs, x, h1, hx⟩, fun y H3 ⟨T, x', ey, hT, eH, hy⟩ => ?_⟩
  have hx' := hy xs h1
  subst ey eH hde
  exact it_new2 hk hT Rp.int (item_get r he hx')
theorem zipD_get : ∀ {ds es : List D} {i : Nat} {d : D}, (zipD ds es)[i]? = some d → ∃ a b, ds[i]? = some a ∧ es[i]? = some b ∧ d = .tuple [a, b]
  | [], es, i, d, h => by simp [zipD] at h
  | x :: ds, [], i, d, h => by simp [zipD] at h
  | x :: ds, y :: es, 0, d, h => by
    simp [zipD] at h
    exact ⟨x, y, rfl, rfl, h.symm⟩
  | x :: ds, y :: es, i + 1, d, h => by
    simp only [zipD, List.getElem?_cons_succ] at h
    obtain ⟨a, b, h1, h2, h3⟩ := zipD_get h
    exact ⟨a, b, by simpa using h1, by simpa using h2, h3⟩
theorem zipD_len : ∀ (ds es : List D), (zipD ds es).length = min ds.length es.length
  | [], es => by simp [zipD]
  | x :: ds, [] => by simp [zipD]
  | x :: ds, y :: es => by simp only [zipD, List.length_cons]; rw [zipD_len ds es]; omega
theorem it_zipL (hK : X.K = U.K) {a b : Addr} {xs ys : List V} {ds es : List D} (h : ∀ ow' H2, Rl ow H ow' H2 → H2 a = some (.lst xs) ∧ RpL U ow' H2 ds xs) (h' : ∀ ow' H2, Rl ow H ow' H2 → H2 b = some (.lst ys) ∧ RpL U ow' H2 es ys) : ItOk U (Rl ow H) (Itz X.K a b) (zipD ds es) := by
  intro ow' H2 s' hr hk
  obtain ⟨h1, r⟩ := h ow' H2 hr
  obtain ⟨h2, r2⟩ := h' ow' H2 hr
  refine ⟨fun i d hd => ?_, ⟨xs, ys, .inl (.inl h1), .inl (.inl h2), by rw [zipD_len, r.length, r2.length]; omega⟩⟩
  obtain ⟨e, f, he, hf, hde⟩ := zipD_get hd
  obtain ⟨x, hx⟩ := len_get r he
  obtain ⟨y, hy⟩ := len_get r2 hf
  refine ⟨⟨xs, ys, x, y, .inl (.inl h1), .inl (.inl h2), hx, hy⟩, fun z H3 ⟨T, x', y', ey, hT, eH, q1, q2⟩ => ?_⟩
  have hx' := q1 xs (.inl (.inl h1))
  have hy' := q2 ys (.inl (.inl h2))
  subst ey eH hde
  exact it_new2 hk hT (item_get r he hx') (item_get r2 hf hy')
theorem it_zipT (hK : X.K = U.K) {a b : Addr} {xs ys : List V} {ds es : List D} (h : ∀ ow' H2, Rl ow H ow' H2 → SqT U.K H2 a xs ∧ RpL U ow' H2 ds xs) (h' : ∀ ow' H2, Rl ow H ow' H2 → SqT U.K H2 b ys ∧ RpL U ow' H2 es ys) : ItOk U (Rl ow H) (RZ.ItzT X.K a b) (zipD ds es) := by
  intro ow' H2 s' hr hk
  obtain ⟨h1, r⟩ := h ow' H2 hr
  obtain ⟨h2, r2⟩ := h' ow' H2 hr
  rw [← hK] at h1 h2
  refine ⟨fun i d hd => ?_, ⟨xs, ys, h1, h2, by rw [zipD_len, r.length, r2.length]; omega⟩⟩
  obtain ⟨e, f, he, hf, hde⟩ := zipD_get hd
  obtain ⟨x, hx⟩ := len_get r he
  obtain ⟨y, hy⟩ := len_get r2 hf
  refine ⟨⟨xs, ys, x, y, h1, h2, hx, hy⟩, fun z H3 ⟨T, x', y', ey, hT, eH, q1, q2⟩ => ?_⟩
  have hx' := q1 xs h1
  have hy' := q2 ys h2
  subst ey eH hde
  exact it_new2 hk hT (item_get r he hx') (item_get r2 hf hy')
end
end Py

set_option Elab.async false
set_option linter.all false
set_option maxRecDepth 100000
set_option maxHeartbeats 1000000
namespace Py
open PySem PySem.Spec PyProof.Rows L2
section
variable {U : Wd} {k : Nat} {Γ : Cxt} {X : Cx} {W : WX} {G : Gs} {ow : Ow} {H : Hp} {s : DS} {Rl : Ow → Hp → Ow → Hp → Prop} {Src : Ow → Hp → D → V → Prop}
def SrcL (Src : Ow → Hp → D → V → Prop) (ow : Ow) (H : Hp) : List D → List V → Prop
  | [], xs => xs = []
  | d :: ds, xs => ∃ x ys, xs = x :: ys ∧ Src ow H d x ∧ SrcL Src ow H ds ys
def tOfQA (U : Wd) (W : WX) (Src : Ow → Hp → D → V → Prop) (f : St → M (List D)) : TA := fun σ H Q => ∃ H0 ow0 ow σd s, SR U H0 ow0 ow σ H σd s ∧ Wp (f σd) s (fun ds s' => ∀ vs H', Ext U H H' → Cap U H' s' → SrcL Src ow H' ds vs → Q vs H') (PostX U W σ H)
theorem pa_evsQ {f : St → Expr → M D} (SO : SrcOk U Rl Src) (g : ∀ e, PE X e (tOfQ U W Src (fun σ => f σ e))) : ∀ es : List Expr, PA X es (tOfQA U W Src (fun σ => evs (f σ) es))
  | [] => PA.imp pa_nil fun σ H Q h => by
    obtain ⟨H0, ow0, ow, σd, s, S, w⟩ := h
    exact w.of_pure [] H Ext.refl S.cap (by unfold SrcL; rfl)
  | e :: es => by
    by_cases hn : notStar e = true
    · refine PA.imp (pa_cons (g e) (pa_evsQ SO g es) (starEach_ns hn)) fun σ H Q h => ?_
      obtain ⟨H0, ow0, ow, σd, s, S, w⟩ := h
      have w : Wp (evs (f σd) (e :: es)) s _ _ := w
      unfold evs at w
      rw [if_pos hn] at w
      refine ⟨H0, ow0, ow, σd, s, S, w.of_bind.mono (fun d1 s1 h1 v1 H1 e1 c1 r1 => ⟨H0, ow0, ow, σd, s1, S.ext e1 c1, h1.of_bind.mono (fun ds s2 h2 vs H2 e2 c2 r2 => h2.of_pure (v1 :: vs) H2 (e1.trans e2) c2 (by unfold SrcL; exact ⟨v1, vs, rfl, SO.ext _ _ _ _ _ e2 r1, r2⟩)) fun x s' hx cls od H' e' => hx cls od H' (e1.trans e')⟩) fun _ _ h => h⟩
    · refine ⟨fun pos pins s σ H Q I h => ?_⟩
      obtain ⟨H0, ow0, ow, σd, s, S, w⟩ := h
      have w : Wp (evs (f σd) (e :: es)) s _ _ := w
      unfold evs at w
      rw [if_neg hn] at w
      exact w.of_fail.elim
theorem SrcL.one {d : D} {vs : List V} (h : SrcL Src ow H [d] vs) : ∃ v, vs = [v] ∧ Src ow H d v := by
  unfold SrcL at h
  obtain ⟨x, ys, e, p, r⟩ := h
  unfold SrcL at r
  subst r
  exact ⟨x, e, p⟩
theorem SrcL.two {d e : D} {vs : List V} (h : SrcL Src ow H [d, e] vs) : ∃ v w, vs = [v, w] ∧ Src ow H d v ∧ Src ow H e w := by
  unfold SrcL at h
  obtain ⟨x, ys, e1, p, r⟩ := h
  obtain ⟨y, e2, q⟩ := SrcL.one r
  subst e2
  exact ⟨x, y, e1, p, q⟩
theorem tOfQA.step {f : St → M (List D)} {β : Type} {kk : List D → M β} {σ : L2.St} {H0 : Hp} {ow0 : Ow} {σd : St} (S : SR U H0 ow0 ow σ H σd s) {Qb : β → DS → Prop} (w : Wp (f σd >>= kk) s Qb (PostX U W σ H)) {R : List V → Hp → Prop}
    (h : ∀ d v H1 s1, Ext U H H1 → SR U H0 ow0 ow σ H1 σd s1 → SrcL Src ow H1 d v → Wp (kk d) s1 Qb (PostX U W σ H) → R v H1) : tOfQA U W Src f σ H R :=
  ⟨H0, ow0, ow, σd, s, S, w.of_bind.mono (fun d s1 h1 v H1 e c p => h d v H1 s1 e (S.ext e c) p h1) fun _ _ h => h⟩
theorem tOfQ.step {f : St → M D} {β : Type} {kk : D → M β} {σ : L2.St} {H0 : Hp} {ow0 : Ow} {σd : St} (S : SR U H0 ow0 ow σ H σd s) {Qb : β → DS → Prop} (w : Wp (f σd >>= kk) s Qb (PostX U W σ H)) {R : VK}
    (h : ∀ d v H1 s1, Ext U H H1 → SR U H0 ow0 ow σ H1 σd s1 → Src ow H1 d v → Wp (kk d) s1 Qb (PostX U W σ H) → R v H1) : tOfQ U W Src f σ H R :=
  ⟨H0, ow0, ow, σd, s, S, w.of_bind.mono (fun d s1 h1 v H1 e c p => h d v H1 s1 e (S.ext e c) p h1) fun _ _ h => h⟩
theorem SqL.of_eq {K : PySem.W.Frag} {a : Addr} {xs : List V} (h : H a = some (.lst xs)) : SqL K H a xs := .inl (.inl h)
/-- data that are walked as they are -/
theorem pi_data (g : Good U k Γ X W) (SO : SrcOk U Rl Src) {tg e : Expr} {f : St → M D} (ha : PE X e (tOfQ U W Src f)) :
    PI X tg e (tOfI U W (fun σ => dataI (f σ)) Rl) := by
  have p1 := pi_list (tg := tg) ha
  have p2 := pi_tup (tg := tg) ha
  refine ⟨fun pins s' σ H R I h => ?_⟩
  obtain ⟨H0, ow0, ow, σd, s, S, w⟩ := h
  have w : Wp (do let d ← f σd; match itemsOf d with | some ds => pure ds | none => fail) s _ _ := w
  refine thn (ha.run pins s' σ H (fun v H1 => ∃ d s1, Ext U H H1 ∧ SR U H0 ow0 ow σ H1 σd s1 ∧ Src ow H1 d v ∧ Wp (match itemsOf d with | some ds => pure ds | none => fail) s1 (fun items s' => ∀ J H', Ext U H H' → Cap U H' s' → ItOk U (Rl ow H') J items → R J H') (PostX U W σ H)) I (tOfQ.step S w fun d1 v1 H1 s1 e1 S1 p1 w1 => ⟨d1, s1, e1, S1, p1, w1⟩)) fun v s2 hv => ?_
  obtain ⟨x, H1, I1, rx, d, s1, e1, S1, px, w1⟩ := hv
  cases d with
  | list ds =>
    have w1 : Wp (pure ds) s1 _ _ := w1
    obtain ⟨a, xs, ev, h1, hh⟩ := SO.lst _ _ _ _ px
    subst ev
    cases rx
    obtain ⟨its, rv, p, hz⟩ := I1.list (SqL.of_eq h1)
    refine wpAny_pyIter_list p.isList ?_
    refine ⟨s2.heap.objs.size, [s2.heap.objs.size], _, _, H1, rfl, I1.kept (t' := s2.toks) fun b o e => Heap.get?_push_of_some _ e, turn_list a _, ⟨_, Heap.get?_push_size _ rfl, rfl, rfl⟩, fun b hb => ?_, w1.of_pure _ H1 e1 S1.cap (it_list g.K hh)⟩
    have e : b = s2.heap.objs.size := by simpa using hb
    subst e
    exact I1.fpOk (Nat.le_refl _) (I1.hok.fresh (Nat.le_refl _))
  | tuple ds =>
    have w1 : Wp (pure ds) s1 _ _ := w1
    obtain ⟨a, xs, ev, h1, hh⟩ := SO.tup _ _ _ _ px
    subst ev
    cases rx
    obtain ⟨its, rv, p, hz⟩ := I1.tuple (by rw [g.K]; exact h1)
    refine wpAny_pyIter_tuple (show s2.heap.IsTuple a its.toArray from p) ?_
    refine ⟨s2.heap.objs.size, [s2.heap.objs.size], _, _, H1, rfl, I1.kept (t' := s2.toks) fun b o e => Heap.get?_push_of_some _ e, turn_tuple a _, ⟨_, Heap.get?_push_size _ rfl, rfl, rfl⟩, fun b hb => ?_, w1.of_pure _ H1 e1 S1.cap (it_tup g.K hh)⟩
    have e : b = s2.heap.objs.size := by simpa using hb
    subst e
    exact I1.fpOk (Nat.le_refl _) (I1.hok.fresh (Nat.le_refl _))
  | _ => exact w1.of_fail.elim
theorem boot_rangeX : bootBuiltins "range" = some (.type "range") := boot_range
theorem evs_wp {f : Expr → M D} : ∀ {es : List Expr} {s : DS} {Q : List D → DS → Prop} {E : Exc → DS → Prop}, Wp (evs f es) s Q E → Wp (evs f es) s (fun ds s' => ds.length = es.length ∧ Q ds s') E
  | [], s, Q, E, w => ⟨rfl, w.of_pure⟩
  | e :: es, s, Q, E, w => by
    unfold evs at w ⊢
    by_cases hn : notStar e = true
    · rw [if_pos hn] at w ⊢
      rw [Wp.bind_iff] at w ⊢
      refine w.mono (fun d s1 h1 => ?_) fun _ _ h => h
      rw [Wp.bind_iff] at h1 ⊢
      exact (evs_wp h1).mono (fun ds s2 ⟨hl, h2⟩ => ⟨by rw [List.length_cons, List.length_cons, hl], h2⟩) fun _ _ h => h
    · rw [if_neg hn] at w
      exact w.of_fail.elim
theorem in62_ok {i : Int} (h : in62 i = true) : -(2 ^ 62) ≤ i ∧ i < 2 ^ 62 := by
  unfold in62 at h
  simp only [Bool.and_eq_true, decide_eq_true_eq] at h
  exact h
/-- what iterC walks -/
theorem src_items (SO : SrcOk U Rl Src) {d : D} {ds : List D} {v : V} (hs : Src ow H d v) (he : itemsOf d = some ds) :
    (∃ a xs, v = .ref a ∧ H a = some (.lst xs) ∧ ∀ ow' H2, Rl ow H ow' H2 → H2 a = some (.lst xs) ∧ RpL U ow' H2 ds xs) ∨ (∃ a xs, v = .ref a ∧ SqT U.K H a xs ∧ ∀ ow' H2, Rl ow H ow' H2 → SqT U.K H2 a xs ∧ RpL U ow' H2 ds xs) := by
  cases d with
  | list es => cases he; exact .inl (SO.lst _ _ _ _ hs)
  | tuple es => cases he; exact .inr (SO.tup _ _ _ _ hs)
  | _ => cases he
theorem int_src (SO : SrcOk U Rl Src) {i : Int} {v : V} (hs : Src ow H (.int i) v) : v = .int i := (SO.pk _ _ _ _ hs).int
theorem tOfQA.stepL {f : St → Expr → M D} {args : List Expr} {β : Type} {kk : List D → M β} {σ : L2.St} {H0 : Hp} {ow0 : Ow} {σd : St} (S : SR U H0 ow0 ow σ H σd s) {Qb : β → DS → Prop} (w : Wp (evs (f σd) args >>= kk) s Qb (PostX U W σ H)) {R : List V → Hp → Prop}
    (h : ∀ d v H1 s1, d.length = args.length → Ext U H H1 → SR U H0 ow0 ow σ H1 σd s1 → SrcL Src ow H1 d v → Wp (kk d) s1 Qb (PostX U W σ H) → R v H1) : tOfQA U W Src (fun σ => evs (f σ) args) σ H R :=
  ⟨H0, ow0, ow, σd, s, S, (evs_wp w.of_bind).mono (fun d s1 ⟨hl, h1⟩ v H1 e c p => h d v H1 s1 hl e (S.ext e c) p h1) fun _ _ h => h⟩
theorem iterC_rng {xs : List D} : iterC ("range" : Str) xs = (match xs with
    | [.int n] => if in62 n = true then pure (rangeD 0 n.toNat) else fail
    | [.int a, .int b] => if in62 a = true ∧ in62 b = true then pure (rangeD a (b - a).toNat) else fail
    | _ => fail) := by
  unfold iterC
  rw [if_pos rfl]
  all_goals rfl
theorem iterC_enum {xs : List D} : iterC ("enumerate" : Str) xs = (match xs with
    | [x] => match itemsOf x with
      | some ds => pure (enumD 0 ds)
      | none => fail
    | [x, .int k] => match itemsOf x with
      | some ds => if in62 k = true then pure (enumD k ds) else fail
      | none => fail
    | _ => fail) := by
  unfold iterC
  rw [if_neg (by decide), if_pos rfl]
  all_goals rfl
theorem iterC_zip {xs : List D} : iterC ("zip" : Str) xs = (match xs with
    | [.list ds, .list es] => pure (zipD ds es)
    | [.tuple ds, .tuple es] => pure (zipD ds es)
    | _ => fail) := by
  unfold iterC
  rw [if_neg (by decide), if_neg (by decide), if_pos rfl]
  all_goals rfl
/-- range(..), enumerate(..), zip(..) -/
theorem pi_call (g : Good U k Γ X W) (SO : SrcOk U Rl Src) {tg : Expr} {fn : Str} {p pos : Pos} {args : List Expr} {f : St → Expr → M D} (ha : ∀ e, PE X e (tOfQ U W Src (fun σ => f σ e))) (h1 : L2.Gl X fn) (h2 : X.mg fn = none)
    (hf : iterOk fn args tg = true) :
    PI X tg (.Call (.Name fn p) args [] pos) (tOfI U W (fun σ => do let xs ← evs (f σ) args; iterC fn xs) Rl) := by
  have pa := pa_evsQ SO ha args
  unfold iterOk at hf
  rw [Bool.and_eq_true] at hf
  obtain ⟨hn, hf⟩ := hf
  match args, hn, hf, pa with
  | [], _, hf, _ => simp at hf
  | [a], hn, hf, pa =>
    have hs : starEach [a] X.env = (false, eval a X.env) :: starEach [] X.env := starEach_ns (noStars_mem hn a List.mem_cons_self)
    by_cases e1 : fn = ("range" : Str)
    · subst e1
      refine PI.imp (pi_range1 h1 h2 pa hs) fun σ H R h => ?_
      obtain ⟨H0, ow0, ow, σd, s, S, w⟩ := h
      show tOfQA U W Src _ σ H _
      refine tOfQA.stepL S w fun ds vs H1 s1 hl e1 S1 sl w1 => ?_
      rw [iterC_rng] at w1
      split at w1
      · rename_i n
        obtain ⟨h62, w1⟩ := w1.of_guard
        obtain ⟨v, ev, hv⟩ := sl.one
        rw [int_src SO hv] at ev
        obtain ⟨b1, b2⟩ := in62_ok h62
        exact ⟨n, ev, b1, b2, w1.of_pure _ H1 e1 S1.cap it_rng⟩
      · simp at hl
      · exact w1.of_fail.elim
    · have e2 : fn = ("enumerate" : Str) ∧ isTup tg = true := by
        have : ¬ (fn = ("range" : Str)) := e1
        simp [this] at hf
        exact ⟨hf.2, hf.1⟩
      obtain ⟨e2, ht⟩ := e2
      subst e2
      cases tg with
      | Tuple elts kk tpos =>
        refine PI.imp (pi_enum1 h1 h2 pa hs (by rfl)) fun σ H R h => ?_
        obtain ⟨H0, ow0, ow, σd, s, S, w⟩ := h
        show tOfQA U W Src _ σ H _
        refine tOfQA.stepL S w fun ds vs H1 s1 hl e1 S1 sl w1 => ?_
        rw [iterC_enum] at w1
        split at w1
        · rename_i x
          split at w1
          · rename_i es he
            obtain ⟨v, ev, hv⟩ := sl.one
            rcases src_items SO hv he with ⟨a, xs, e3, h3, hh⟩ | ⟨a, xs, e3, h3, hh⟩
            · subst e3
              exact ⟨a, xs, ev, .inl ⟨SqL.of_eq h3, w1.of_pure _ H1 e1 S1.cap (it_enumL g.K hh)⟩⟩
            · subst e3
              exact ⟨a, xs, ev, .inr ⟨by rw [g.K]; exact h3, w1.of_pure _ H1 e1 S1.cap (it_enumT g.K hh)⟩⟩
          · exact w1.of_fail.elim
        · simp at hl
        · exact w1.of_fail.elim
      | _ => simp [isTup] at ht
  | [a, b], hn, hf, pa =>
    have hs : starEach [a, b] X.env = (false, eval a X.env) :: starEach [b] X.env := starEach_ns (noStars_mem hn a List.mem_cons_self)
    have hs2 : starEach [b] X.env = (false, eval b X.env) :: starEach [] X.env := starEach_ns (noStars_mem hn b (by simp))
    have hp : (backTo pos (starEach [b] X.env)).any (·.1) = false := plain_star fun e he => noStars_mem hn e (List.mem_cons_of_mem _ he)
    by_cases e1 : fn = ("range" : Str)
    · subst e1
      refine PI.imp (pi_range2 h1 h2 pa (by rw [hs, hs2]; rfl) hs2) fun σ H R h => ?_
      obtain ⟨H0, ow0, ow, σd, s, S, w⟩ := h
      show tOfQA U W Src _ σ H _
      refine tOfQA.stepL S w fun ds vs H1 s1 hl e1 S1 sl w1 => ?_
      rw [iterC_rng] at w1
      split at w1
      · simp at hl
      · rename_i i j
        obtain ⟨⟨h62, h63⟩, w1⟩ := w1.of_guard
        obtain ⟨v, u, ev, hv, hu⟩ := sl.two
        rw [int_src SO hv, int_src SO hu] at ev
        obtain ⟨b1, b2⟩ := in62_ok h62
        obtain ⟨b3, b4⟩ := in62_ok h63
        exact ⟨i, j, ev, ⟨b1, b2, b3, b4⟩, w1.of_pure _ H1 e1 S1.cap it_rng⟩
      · exact w1.of_fail.elim
    · have e2 : isTup tg = true ∧ (fn = ("enumerate" : Str) ∨ fn = ("zip" : Str)) := by
        have : ¬ (fn = ("range" : Str)) := e1
        simp [this] at hf
        exact hf
      obtain ⟨ht, e2⟩ := e2
      cases tg with
      | Tuple elts kk tpos =>
        rcases e2 with e2 | e2
        · subst e2
          refine PI.imp (pi_enum2 h1 h2 pa hs hp) fun σ H R h => ?_
          obtain ⟨H0, ow0, ow, σd, s, S, w⟩ := h
          show tOfQA U W Src _ σ H _
          refine tOfQA.stepL S w fun ds vs H1 s1 hl e1 S1 sl w1 => ?_
          rw [iterC_enum] at w1
          split at w1
          · simp at hl
          · rename_i x n
            split at w1
            · rename_i es he
              obtain ⟨h62, w1⟩ := w1.of_guard
              obtain ⟨v, u, ev, hv, hu⟩ := sl.two
              rw [int_src SO hu] at ev
              obtain ⟨b1, b2⟩ := in62_ok h62
              rcases src_items SO hv he with ⟨a, xs, e3, h3, hh⟩ | ⟨a, xs, e3, h3, hh⟩
              · subst e3
                exact ⟨a, xs, n, ev, by omega, by omega, .inl ⟨SqL.of_eq h3, w1.of_pure _ H1 e1 S1.cap (it_enumL g.K hh)⟩⟩
              · subst e3
                exact ⟨a, xs, n, ev, by omega, by omega, .inr ⟨by rw [g.K]; exact h3, w1.of_pure _ H1 e1 S1.cap (it_enumT g.K hh)⟩⟩
            · exact w1.of_fail.elim
          · exact w1.of_fail.elim
        · subst e2
          refine PI.imp (RZ.pi_zipA h1 h2 pa hs hp) fun σ H R h => ?_
          obtain ⟨H0, ow0, ow, σd, s, S, w⟩ := h
          show tOfQA U W Src _ σ H _
          refine tOfQA.stepL S w fun ds vs H1 s1 hl e1 S1 sl w1 => ?_
          rw [iterC_zip] at w1
          split at w1
          · rename_i es fs
            obtain ⟨v, u, ev, hv, hu⟩ := sl.two
            obtain ⟨a, xs, e3, h3, hh⟩ := SO.lst _ _ _ _ hv
            obtain ⟨b, ys, e4, h4, hh4⟩ := SO.lst _ _ _ _ hu
            subst e3 e4
            exact ⟨a, b, xs, ys, ev, .inl ⟨SqL.of_eq h3, SqL.of_eq h4, w1.of_pure _ H1 e1 S1.cap (it_zipL g.K hh hh4)⟩⟩
          · rename_i es fs
            obtain ⟨v, u, ev, hv, hu⟩ := sl.two
            obtain ⟨a, xs, e3, h3, hh⟩ := SO.tup _ _ _ _ hv
            obtain ⟨b, ys, e4, h4, hh4⟩ := SO.tup _ _ _ _ hu
            subst e3 e4
            exact ⟨a, b, xs, ys, ev, .inr ⟨by rw [g.K]; exact h3, by rw [g.K]; exact h4, w1.of_pure _ H1 e1 S1.cap (it_zipT g.K hh hh4)⟩⟩
          · exact w1.of_fail.elim
      | _ => simp [isTup] at ht
  | a :: b :: c :: r, _, hf, _ => simp at hf
theorem fold_ok {e : Expr} {env : Env} (h : ∀ es j p, e ≠ .Set es j p) : ∀ x, foldedSetIterable e env x = pure x := by
  intro x
  cases e <;> first | rfl | exact absurd rfl (h _ _ _)
/-- what is walked -/
theorem pi_iterE (g : Good U k Γ X W) (go : GlOk U k G) (SO : SrcOk U Rl Src) {tg it : Expr} {f : St → Expr → M D} (ha : ∀ e, PE X e (tOfQ U W Src (fun σ => f σ e))) :
    PI X tg it (tOfI U W (fun σ => iterE G Γ (f σ) tg it) Rl) ∧ ((∀ x, foldedSetIterable it X.env x = pure x) ∨ ∀ σ, iterE G Γ (f σ) tg it = fail) := by
  have gen : ∀ e, (∀ σ, iterE G Γ (f σ) tg e = dataI (f σ e)) → PI X tg e (tOfI U W (fun σ => iterE G Γ (f σ) tg e) Rl) := fun e h => by
    have : (fun σ => iterE G Γ (f σ) tg e) = fun σ => dataI (f σ e) := funext h
    rw [this]
    exact pi_data g SO (ha e)
  by_cases hs : ∃ es j p, it = .Set es j p
  · obtain ⟨es, j, p, rfl⟩ := hs
    refine ⟨⟨fun pins s' σ H R I h => ?_⟩, .inr fun σ => rfl⟩
    obtain ⟨H0, ow0, ow, σd, s, S, w⟩ := h
    exact (show Wp fail s _ _ from w).of_fail.elim
  · refine ⟨?_, .inl (fold_ok fun es j p e => hs ⟨es, j, p, e⟩)⟩
    cases it with
    | Call fe args kws pos =>
      cases fe with
      | Name fn p =>
        cases kws with
        | nil =>
          by_cases hc : gname G Γ fn = true ∧ iterOk fn args tg = true
          · have : (fun σ => iterE G Γ (f σ) tg (.Call (.Name fn p) args [] pos)) = (fun σ => evs (f σ) args >>= fun xs => iterC fn xs) := by
              funext σ
              show (if gname G Γ fn = true ∧ iterOk fn args tg = true then _ else _) = _
              rw [if_pos hc]
            rw [this]
            obtain ⟨hg, hi⟩ := hc
            unfold gname at hg
            simp only [Bool.and_eq_true] at hg
            obtain ⟨k1, k2, k3, k4⟩ := gname_ok g go hg.1.1 hg.1.2 hg.2
            exact pi_call g SO ha k1 k2 hi
          · exact gen _ fun σ => by
              show (if gname G Γ fn = true ∧ iterOk fn args tg = true then _ else _) = _
              rw [if_neg hc]
        | cons kw kws => exact gen _ fun σ => rfl
      | _ => exact gen _ fun σ => rfl
    | Set es j p => exact absurd ⟨es, j, p, rfl⟩ hs
    | _ => exact gen _ fun σ => rfl
end
end Py

set_option Elab.async false
set_option linter.all false
set_option maxRecDepth 100000
set_option maxHeartbeats 1000000
namespace Py
open PySem PySem.Spec PyProof.Rows L2
section
variable {U : Wd} {k : Nat} {Γ : Cxt} {X : Cx} {W : WX} {G : Gs} {ow ow0 : Ow} {H H0 : Hp} {s : DS} {σ : L2.St} {σd : St}
theorem SR.set (S : SR U H0 ow0 ow σ H σd s) {i : Nat} {d : D} {v : V} (r : Rp U ow H d v) : SR U H0 ow0 ow (σ.set i (some v)) H (σd.set i (some (d, false))) s := by
  refine ⟨S.trk, S.capo, S.cello, S.own0, S.agr, S.base, fun j e o h => ?_, S.cap, by rw [List.length_set, List.length_set]; exact S.len⟩
  by_cases hj : i = j
  · subst hj
    by_cases hi : i < σd.length
    · rw [List.getElem?_set_self hi] at h
      cases h
      exact ⟨v, by rw [List.getElem?_set_self (by rw [← S.len]; exact hi)], fun _ => r, fun z => by cases z⟩
    · rw [List.getElem?_eq_none (by simpa using hi)] at h; cases h
  · rw [List.getElem?_set_ne hj] at h ⊢
    exact S.slots j e o h
/-- the slots but those at is stand as before -/
def SameBut (is : List Nat) (σ σ' : L2.St) : Prop := σ'.length = σ.length ∧ ∀ i, i ∉ is → σ'[i]? = σ[i]?
theorem SameBut.refl {is : List Nat} : SameBut is σ σ := ⟨rfl, fun _ _ => rfl⟩
theorem SameBut.trans {is js : List Nat} {σ' σ'' : L2.St} (a : SameBut is σ σ') (b : SameBut js σ' σ'') (h1 : ∀ i ∈ is, i ∈ js) : SameBut js σ σ'' := ⟨b.1.trans a.1, fun i hi => (b.2 i hi).trans (a.2 i fun z => hi (h1 i z))⟩
theorem SameBut.set {is : List Nat} {i : Nat} {v : Option V} (h : i ∈ is) : SameBut is σ (σ.set i v) := ⟨by rw [List.length_set], fun j hj => List.getElem?_set_ne (fun z => hj (by rw [← z]; exact h))⟩
theorem SameBut.wipe {is : List Nat} {σ' : L2.St} (a : SameBut is σ σ') : L2.wipe σ' is = L2.wipe σ is := by
  apply List.ext_getElem?
  intro i
  by_cases hi : i ∈ is
  · have key : ∀ (τ : L2.St) (js : List Nat), i ∈ js → (L2.wipe τ js)[i]? = if i < τ.length then some none else none := by
      intro τ js
      induction js with
      | nil => intro h; simp at h
      | cons j js ih =>
        intro h
        unfold L2.wipe
        by_cases hj : j = i
        · subst hj
          by_cases hl : j < τ.length
          · rw [List.getElem?_set_self (by rw [wipe_length]; exact hl), if_pos hl]
          · rw [if_neg hl, List.getElem?_eq_none (by rw [List.length_set, wipe_length]; omega)]
        · rw [List.getElem?_set_ne hj]
          exact ih ((List.mem_cons.mp h).resolve_left (fun z => hj z.symm))
    rw [key σ' is hi, key σ is hi, a.1]
  · rw [wipe_out hi, wipe_out hi]
    exact a.2 i hi
theorem setN_of {x : Str} {i : Nat} {d : D} (h : setI Γ x = some i) : setN Γ σd x d false = some (σd.set i (some (d, false))) := by
  unfold setI at h
  split at h
  · rename_i hc
    unfold setN
    rw [if_pos hc, h]
  · cases h
theorem bindNs_of : ∀ {es : List Expr} {is : List Nat} {ds : List D} {σd σd' : St}, idxs Γ es = some is → setAll σd is ds = some σd' → bindNs Γ σd es ds = some σd'
  | [], is, ds, σd, σd', h, hs => by
    cases h
    cases ds with
    | nil => unfold setAll at hs; unfold bindNs; exact hs
    | cons _ _ => unfold setAll at hs; cases hs
  | e :: es, is, ds, σd, σd', h, hs => by
    cases e with
    | Name x p =>
      unfold idxs at h
      cases h1 : setI Γ x with
      | none => rw [h1] at h; cases h
      | some i =>
        cases h2 : idxs Γ es with
        | none => rw [h1, h2] at h; cases h
        | some js =>
          rw [h1, h2] at h
          cases h
          cases ds with
          | nil => unfold setAll at hs; cases hs
          | cons d ds =>
            unfold setAll at hs
            unfold bindNs
            rw [setN_of h1]
            exact bindNs_of h2 hs
    | _ => unfold idxs at h; cases h
theorem bindT_to {tg : Expr} {d : D} {σd σd' : St} (h : bindT Γ σd tg d = some σd') : bindT0 Γ σd tg d = some σd' := by
  unfold bindT at h
  cases tg with
  | Name x p =>
    unfold tgIdx at h
    dsimp only at h
    cases h1 : setI Γ x with
    | none => rw [h1] at h; cases h
    | some i =>
      rw [h1] at h
      exact (setN_of h1).trans h
  | Tuple es j p =>
    unfold tgIdx at h
    dsimp only at h
    cases h1 : idxs Γ es with
    | none => rw [h1] at h; cases h
    | some is =>
      rw [h1] at h
      have h : (match itemsOf d with
        | some ds => setAll σd is ds
        | none => none) = some σd' := h
      unfold bindT0
      dsimp only
      cases hd : itemsOf d with
      | none => rw [hd] at h; cases h
      | some ds => rw [hd] at h; exact bindNs_of h1 h
  | _ => unfold tgIdx at h; cases h
/-- a target that names take -/
def gOf (U : Wd) (Γ : Cxt) (tg : Expr) (is : List Nat) : TG := fun v σ H Q => ∃ H0 ow0 ow σd s d σd', SR U H0 ow0 ow σ H σd s ∧ Rp U ow H d v ∧ bindT0 Γ σd tg d = some σd' ∧ ∀ σ', SR U H0 ow0 ow σ' H σd' s → SameBut is σ σ' → Q σ' H
def gsOf (U : Wd) (Γ : Cxt) (es : List Expr) (is : List Nat) : TGs := fun vs σ H Q => ∃ H0 ow0 ow σd s ds σd', SR U H0 ow0 ow σ H σd s ∧ RpL U ow H ds vs ∧ bindNs Γ σd es ds = some σd' ∧ ∀ σ', SR U H0 ow0 ow σ' H σd' s → SameBut is σ σ' → Q σ' H
theorem PG.imp {tg : Expr} {t t' : TG} (h : PG X tg t) (i : ∀ v σ H Q, t' v σ H Q → t v σ H Q) : PG X tg t' := ⟨fun pins s σ H v u Q I r q => h.run pins s σ H v u Q I r (i v σ H Q q)⟩
theorem PGs.imp {tg : List Expr} {t t' : TGs} (h : PGs X tg t) (i : ∀ v σ H Q, t' v σ H Q → t v σ H Q) : PGs X tg t' := ⟨fun pins s σ H v u Q I r q => h.run pins s σ H v u Q I r (i v σ H Q q)⟩
theorem setN_ok {x : Str} {d : D} {o : Bool} {σd' : St} (h : setN Γ σd x d o = some σd') : ∃ i, okName x = true ∧ (Γ.st.names.lookup x = some .local ∨ Γ.st.names.lookup x = some .cell) ∧ Γ.N.idxOf? x = some i ∧ Γ.N[i]? = some x ∧ σd' = σd.set i (some (d, o)) := by
  unfold setN at h
  split at h
  · rename_i hc
    split at h
    · rename_i i hi
      cases h
      exact ⟨i, hc.1, hc.2, hi, idxOf_get hi, rfl⟩
    · cases h
  · cases h
theorem loc_ok (g : Good U k Γ X W) {x : Str} (h : Γ.st.names.lookup x = some .local ∨ Γ.st.names.lookup x = some .cell) : L2.Loc X.env.scope x ∧ (X.fn x = true ∨ X.env.scope.names.lookup x = some .local) := by
  unfold L2.Loc
  rw [g.sc]
  rcases h with h | h
  · exact ⟨.inl (g.stl x h), .inr (g.stl x h)⟩
  · exact ⟨.inr (g.stc x h).1, .inl (g.stc x h).2⟩
theorem pg_nameI (g : Good U k Γ X W) {x : Str} {p : Pos} {is : List Nat} (hi : ∀ i, Γ.N.idxOf? x = some i → i ∈ is) : PG X (.Name x p) (gOf U Γ (.Name x p) is) := by
  by_cases hh : ∃ i, okName x = true ∧ (Γ.st.names.lookup x = some .local ∨ Γ.st.names.lookup x = some .cell) ∧ Γ.N.idxOf? x = some i
  · obtain ⟨i, hok, hl, hx⟩ := hh
    obtain ⟨h1, h2⟩ := loc_ok g hl
    refine PG.imp (pg_name (i := i) (by rw [g.N]; exact g.nd) (by rw [g.N]; exact idxOf_get hx) h1 h2) fun v σ H Q h => ?_
    obtain ⟨H0, ow0, ow, σd, s, d, σd', S, r, hb, q⟩ := h
    obtain ⟨j, _, _, hj, _, e⟩ := setN_ok (show setN Γ σd x d false = some σd' from hb)
    rw [hx] at hj; cases hj
    subst e
    exact q _ (S.set r) (SameBut.set (hi i hx))
  · refine ⟨fun pins s' σ H v u Q I r h => ?_⟩
    obtain ⟨H0, ow0, ow, σd, s, d, σd', S, r, hb, q⟩ := h
    obtain ⟨j, h1, h2, hj, _, e⟩ := setN_ok (show setN Γ σd x d false = some σd' from hb)
    exact absurd ⟨j, h1, h2, hj⟩ hh
theorem pgs_I (g : Good U k Γ X W) {is : List Nat} : ∀ (es : List Expr), (∀ x ∈ tgNames (.Tuple es 0 ⟨0, 0, 0, 0⟩), ∀ i, Γ.N.idxOf? x = some i → i ∈ is) → PGs X es (gsOf U Γ es is)
  | [], _ => PGs.imp pgs_nil fun vs σ H Q h => by
    obtain ⟨H0, ow0, ow, σd, s, ds, σd', S, r, hb, q⟩ := h
    cases ds with
    | nil =>
      unfold RpL at r
      unfold bindNs at hb
      cases hb
      exact ⟨r, q σ S SameBut.refl⟩
    | cons d ds => simp [bindNs] at hb
  | e :: es, hi => by
    cases e with
    | Name x p =>
      have hx : ∀ i, Γ.N.idxOf? x = some i → i ∈ is := hi x (by simp [tgNames])
      have hr := pgs_I g es fun y hy => hi y (by simp [tgNames] at hy ⊢; exact .inr hy)
      refine PGs.imp (pgs_cons (pg_nameI g hx) hr) fun vs σ H Q h => ?_
      obtain ⟨H0, ow0, ow, σd, s, ds, σd', S, r, hb, q⟩ := h
      cases ds with
      | nil => simp [bindNs] at hb
      | cons d ds =>
        unfold RpL at r
        obtain ⟨v, ys, e, r1, r2⟩ := r
        unfold bindNs at hb
        cases h1 : setN Γ σd x d false with
        | none => rw [h1] at hb; cases hb
        | some σ1 =>
          rw [h1] at hb
          exact ⟨v, ys, e, H0, ow0, ow, σd, s, d, σ1, S, r1, h1, fun σ' S' sb => ⟨H0, ow0, ow, σ1, s, ds, σd', S', r2, hb, fun σ'' S'' sb' => q σ'' S'' (sb.trans sb' fun _ z => z)⟩⟩
    | _ =>
      refine ⟨fun pins s' σ H v u Q I r h => ?_⟩
      obtain ⟨H0, ow0, ow, σd, s, ds, σd', S, r, hb, q⟩ := h
      cases ds <;> simp [bindNs] at hb
theorem assign_names {env : Env} : ∀ {es : List Expr} {xs : List Str}, namesOf es = some xs → (assignEach es env).length = es.length ∧ (assignEach es env).findIdx? (·.1) = none
  | [], _, _ => ⟨rfl, rfl⟩
  | e :: es, xs, h => by
    cases e with
    | Name x p =>
      unfold namesOf at h
      cases h1 : namesOf es with
      | none => rw [h1] at h; cases h
      | some ys =>
        obtain ⟨h2, h3⟩ := assign_names (env := env) h1
        constructor
        · show (assignEach es env).length + 1 = es.length + 1
          rw [h2]
        · show ((false, _) :: assignEach es env).findIdx? (·.1) = none
          rw [List.findIdx?_cons, h3]
          rfl
    | _ => simp [namesOf] at h
theorem bindNs_names : ∀ {es : List Expr} {ds : List D} {σd σd' : St}, bindNs Γ σd es ds = some σd' → ∃ xs, namesOf es = some xs
  | [], _, _, _, _ => ⟨[], rfl⟩
  | e :: es, ds, σd, σd', h => by
    cases e with
    | Name x p =>
      cases ds with
      | nil => simp [bindNs] at h
      | cons d ds =>
        unfold bindNs at h
        cases h1 : setN Γ σd x d false with
        | none => rw [h1] at h; cases h
        | some σ1 =>
          rw [h1] at h
          obtain ⟨ys, hy⟩ := bindNs_names (show bindNs Γ σ1 es ds = some σd' from h)
          exact ⟨x :: ys, by unfold namesOf; rw [hy]; rfl⟩
    | _ => cases ds <;> simp [bindNs] at h
theorem bindNs_len : ∀ {es : List Expr} {ds : List D} {σd σd' : St}, bindNs Γ σd es ds = some σd' → es.length = ds.length
  | [], [], _, _, _ => rfl
  | [], d :: ds, _, _, h => by simp [bindNs] at h
  | e :: es, ds, σd, σd', h => by
    cases e with
    | Name x p =>
      cases ds with
      | nil => simp [bindNs] at h
      | cons d ds =>
        unfold bindNs at h
        cases h1 : setN Γ σd x d false with
        | none => rw [h1] at h; cases h
        | some σ1 =>
          rw [h1] at h
          rw [List.length_cons, List.length_cons, bindNs_len (show bindNs Γ σ1 es ds = some σd' from h)]
    | _ => cases ds <;> simp [bindNs] at h
theorem ownOf_mem {tg : Expr} {x : Str} {i : Nat} (h : x ∈ tgNames tg) (hi : Γ.N.idxOf? x = some i) : i ∈ (ownOf Γ.N tg).map (·.2) := by
  unfold ownOf
  rw [List.mem_map]
  exact ⟨(x, i), List.mem_filterMap.mpr ⟨x, h, by rw [hi]; rfl⟩, rfl⟩
theorem pg_I (g : Good U k Γ X W) (tg : Expr) : PG X tg (gOf U Γ tg ((ownOf Γ.N tg).map (·.2))) := by
  cases tg with
  | Name x p => exact pg_nameI g fun i hi => ownOf_mem (by simp [tgNames]) hi
  | Tuple es j p =>
    cases hn : namesOf es with
    | none =>
      refine ⟨fun pins s' σ H v u Q I r h => ?_⟩
      obtain ⟨H0, ow0, ow, σd, s, d, σd', S, r, hb, q⟩ := h
      unfold bindT0 at hb
      dsimp only at hb
      split at hb
      · obtain ⟨xs, hx⟩ := bindNs_names hb
        rw [hn] at hx; cases hx
      · cases hb
    | some xs =>
      obtain ⟨h1, h2⟩ := assign_names (env := X.env) hn
      have hp := pgs_I g (is := (ownOf Γ.N (.Tuple es j p)).map (·.2)) es fun x hx i hi => ownOf_mem (by simpa [tgNames] using hx) hi
      have p1 := pg_tup (k := j) (pos := p) g.calm hp h1 h2
      have p2 := pg_lst (k := j) (pos := p) g.calm hp h1 h2
      refine ⟨fun pins s' σ H v u Q I rr h => ?_⟩
      obtain ⟨H0, ow0, ow, σd, s, d, σd', S, r, hb, q⟩ := h
      unfold bindT0 at hb
      dsimp only at hb
      split at hb
      · rename_i ds hd
        have hl := bindNs_len hb
        cases d with
        | list es' =>
          cases hd
          obtain ⟨a, ys, e1, h3, h4⟩ := Pk.list (.inl r)
          exact p2.run pins s' σ H v u Q I rr ⟨a, ys, e1, .inl (.inl h3), by rw [hl, h4.length], H0, ow0, ow, σd, s, ds, σd', S, h4, hb, q⟩
        | tuple es' =>
          cases hd
          obtain ⟨a, ys, e1, h3, h4⟩ := Pk.tuple (.inl r)
          exact p1.run pins s' σ H v u Q I rr ⟨a, ys, e1, by rw [g.K]; exact h3, by rw [hl, h4.length], H0, ow0, ow, σd, s, ds, σd', S, h4, hb, q⟩
        | _ => cases hd
      · cases hb
  | _ =>
    refine ⟨fun pins s' σ H v u Q I r h => ?_⟩
    obtain ⟨H0, ow0, ow, σd, s, d, σd', S, r, hb, q⟩ := h
    simp [bindT0] at hb
end
end Py

set_option Elab.async false
set_option linter.all false
set_option maxRecDepth 100000
set_option maxHeartbeats 1000000
namespace Py
open PySem PySem.Spec PyProof.Rows L2
section
variable {U : Wd} {k : Nat} {Γ : Cxt} {X : Cx} {W : WX} {G : Gs} {ow ow0 : Ow} {H H0 : Hp} {s : DS} {σ : L2.St} {σd : St}
/-- nothing leaves -/
def W0 : WX := fun _ _ _ _ => False
theorem good_blk (g : Good U k Γ X W) {s : Shared} {H : Hp} {scope : Scope} {C : Addr} {cl : List (Str × Addr)} {fp : List Addr} :
    Good U k ⟨Γ.N, L2.relS scope Γ.sc, scope⟩ (X.blk s H scope (compEnvC scope cl C X.env) fp) W0 where
  P := g.P
  w := g.w
  K := g.K
  mg := g.mg
  base := g.base
  N := g.N
  sc := by
    show relabel scope X.env = relS scope Γ.sc
    rw [← g.sc]
    rfl
  nd := g.nd
  calm := g.calm
  room := g.room
  tk := takes0
  stl := fun x h => lookup_relS_keep (sc := Γ.sc) (by decide) h
  stc := fun x h => ⟨lookup_relS_keep (sc := Γ.sc) (by decide) h, by
    show (scope.names.lookup x == some .cell) = true
    rw [h]
    rfl⟩
theorem SR.wipe (S : SR U H0 ow0 ow σ H σd s) (is : List Nat) : SR U H0 ow0 ow (L2.wipe σ is) H (Py.wipe σd is) s := by
  have hl : ∀ (is : List Nat), (Py.wipe σd is).length = σd.length := fun is => by
    induction is with
    | nil => rfl
    | cons i is ih => unfold Py.wipe; rw [List.length_set, ih]
  refine ⟨S.trk, S.capo, S.cello, S.own0, S.agr, S.base, fun j e o h => ?_, S.cap, by rw [hl, L2.wipe_length]; exact S.len⟩
  have key : ∀ (is : List Nat), (Py.wipe σd is)[j]? = some (some (e, o)) → σd[j]? = some (some (e, o)) ∧ j ∉ is := fun is => by
    induction is with
    | nil => intro h; exact ⟨h, by simp⟩
    | cons i is ih =>
      intro h
      unfold Py.wipe at h
      by_cases hi : i = j
      · subst hi
        by_cases hv : i < (Py.wipe σd is).length
        · rw [List.getElem?_set_self hv] at h; cases h
        · rw [List.getElem?_eq_none (by simpa using hv)] at h; cases h
      · rw [List.getElem?_set_ne hi] at h
        obtain ⟨h1, h2⟩ := ih h
        exact ⟨h1, by simp only [List.mem_cons, not_or]; exact ⟨fun z => hi z.symm, h2⟩⟩
  obtain ⟨h1, h2⟩ := key is h
  obtain ⟨v, h3, h4, h5⟩ := S.slots j e o h1
  exact ⟨v, by rw [wipe_out h2]; exact h3, h4, h5⟩
/-- the tests of a comprehension -/
theorem pts_I {f : St → Expr → M D} (hT : ∀ e, PT X e (tOfT U W (fun σ => tst (f σ) e))) : ∀ ifs : List Expr, PTs X ifs (tOfT U W (fun σ => ifsE (f σ) ifs))
  | [] => ⟨fun pins s' σ H Q I h => pts_nil.run pins s' σ H Q I (by
      obtain ⟨H0, ow0, ow, σd, s, S, w⟩ := h
      exact (show Wp (pure true) s _ _ from w).of_pure H Ext.refl S.cap)⟩
  | [c] => pts_one (hT c)
  | _ :: _ :: _ => ⟨fun pins s' σ H Q I h => by
      obtain ⟨H0, ow0, ow, σd, s, S, w⟩ := h
      exact (show Wp fail s _ _ from w).of_fail.elim⟩
theorem Wp.ex {α : Type} {m : M α} {s : DS} {Q : α → DS → Prop} (h : Wp m s Q fun _ _ => False) : ∃ a s', Q a s' := by
  unfold Wp at h
  split at h
  · exact ⟨_, _, h⟩
  · exact h.elim
  · exact h.elim
/-- what a comprehension makes, from the items at i on -/
theorem compL_wp {Γ : Cxt} {tg : Expr} {f : St → M Bool} {gg : St → M D} {items : List D} {Q : List D → DS → Prop} {E : Exc → DS → Prop} {d : D} (w : Wp (compL (fun d => bindT Γ σd tg d) f gg (d :: items)) s Q E) :
    ∃ σ', bindT Γ σd tg d = some σ' ∧ Wp (f σ') s (fun b s1 => if b = true then Wp (gg σ') s1 (fun y s2 => Wp (compL (fun d => bindT Γ σd tg d) f gg items) s2 (fun ys s3 => Q (y :: ys) s3) E) E else Wp (compL (fun d => bindT Γ σd tg d) f gg items) s1 Q E) E := by
  unfold compL at w
  have w := w.of_bind
  unfold lift at w
  cases hb : bindT Γ σd tg d with
  | none => rw [hb] at w; exact w.of_fail.elim
  | some σ' =>
    rw [hb] at w
    refine ⟨σ', rfl, w.of_pure.of_bind.mono (fun b s1 h => ?_) fun _ _ h => h⟩
    cases b with
    | true =>
      rw [if_pos rfl] at h ⊢
      exact h.of_bind.mono (fun y s2 h2 => h2.of_bind.mono (fun ys s3 h3 => h3.of_pure) fun _ _ h => h) fun _ _ h => h
    | false =>
      rw [if_neg (by decide)] at h ⊢
      exact h
/-- the new list is owned by none of the slots -/
def owD (ow : Ow) (D : Addr) : Ow := fun b => if b = D then some 0 else ow b
theorem SR.grownU (S : SR U H0 ow0 ow σ H σd s) {D : Addr} (hD : H D = none) {u0 : HO} (hu0 : ∀ xs, u0 ≠ .tup xs) {H' : Hp} {s' : DS} (e : Ext U H H') (c : Cap U H' s') (h' : H' D = some u0) : SR U H0 ow0 (owD ow D) σ H' σd s' := by
  have hc := S.nocap hD
  have hne : ∀ a u, H a = some u → a ≠ D := fun a u h => ne_of_none h hD
  have kp : Keep U ow (owD ow D) H H' := fun a u ha ho hu => ⟨e a u ha hu, by unfold owD; rw [if_neg (hne a u hu)]; exact ho⟩
  refine ⟨fun a h => ?_, ?_, ?_, fun a i h => ?_, fun a u h => ?_, S.base.trans e, fun j d o h => ?_, c, S.len⟩
  · by_cases hd : a = D
    · subst hd; exact ⟨_, h', hu0⟩
    · unfold owD at h
      rw [if_neg hd] at h
      obtain ⟨u, hu, ht⟩ := S.trk a h
      exact ⟨u, e a u (fun z => by rw [z] at h; exact h S.capo) hu, ht⟩
  · unfold owD; rw [if_neg (fun z => hc z.symm)]; exact S.capo
  · unfold owD
    rw [if_neg (fun z => by rw [← z, S.cap.cells] at hD; cases hD)]
    exact S.cello
  · unfold owD at h
    split at h
    · cases h
    · exact S.own0 a i h
  · unfold owD
    have hH : a ≠ D := fun z => by
      subst z
      rw [S.base a u hc h] at hD; cases hD
    rw [if_neg hH]
    exact S.agr a u h
  · obtain ⟨v, h1, h2, h3⟩ := S.slots j d o h
    refine ⟨v, h1, fun z => Rp.mono kp d v (h2 z), fun z => ?_⟩
    obtain ⟨a, u, e2, k1, k2, k3, r⟩ := h3 z
    exact ⟨a, u, e2, e a _ k3 k1, by unfold owD; rw [if_neg (hne a _ k1)]; exact k2, k3, Sh.mono kp r⟩
theorem SR.grown (S : SR U H0 ow0 ow σ H σd s) {D : Addr} (hD : H D = none) {acc : List V} {H' : Hp} {s' : DS} (e : Ext U H H') (c : Cap U H' s') (h' : H' D = some (.lst acc)) : SR U H0 ow0 (owD ow D) σ H' σd s' := S.grownU (u0 := .lst acc) hD (fun _ z => nomatch z) e c h'
theorem keepD {D : Addr} {H : Hp} {i : Option Nat} : Keep U (owD ow D) (fun b => if b = D then i else ow b) H H := fun a u _ ho e => ⟨e, by
  unfold owD at ho
  by_cases h : a = D
  · subst h; rw [if_pos rfl] at ho; cases ho
  · rw [if_neg h] at ho
    show (if a = D then i else ow a) = none
    rw [if_neg h]; exact ho⟩
/-- changing the new list leaves what is shared -/
theorem keepU {D : Addr} {H : Hp} {o : HO} : Keep U (owD ow D) (owD ow D) H (upd H D o) := fun a u _ ho e => by
  have : a ≠ D := fun z => by subst z; unfold owD at ho; rw [if_pos rfl] at ho; cases ho
  exact ⟨by rw [upd_ne this]; exact e, ho⟩
theorem comp_imp (g : Good U k Γ X W) {elt tg : Expr} {ifs : List Expr} {sc : Scope} {fi : St → M (List D)} {rec : St → Expr → M D} {σ : L2.St} {H : Hp} {Q : VK} (h : tOf U W (fun σ => do
      let items ← fi σ
      let ys ← compB rec ⟨Γ.N, L2.relS sc Γ.sc, sc⟩ (Py.wipe σ ((ownOf Γ.N tg).map (·.2))) tg ifs elt items
      if ys.length ≤ sline then pure (.list ys) else fail) isL σ H Q) :
    tLc (tOfI U W fi (RlE U)) (gOf U ⟨Γ.N, L2.relS sc Γ.sc, sc⟩ tg ((ownOf Γ.N tg).map (·.2))) (tOfT U W0 (fun σ => ifsE (rec σ) ifs)) (tOf U W0 (fun σ => rec σ elt) fun _ => false) ((ownOf Γ.N tg).map (·.2)) σ H Q := by
  obtain ⟨H0, ow0, ow, σd, s, S, w⟩ := h
  refine ⟨H0, ow0, ow, σd, s, S, w.of_bind.mono (fun items s1 h1 J H1 e1 c1 ito => ?_) fun _ _ h => h⟩
  intro Da hD
  have S1 := S.ext e1 c1
  have w1 := quiet_wp (show Wp (quiet _) s1 _ _ from h1.of_bind)
  refine ⟨fun i m H' => m = items.length - i ∧ i ≤ items.length ∧ ∃ acc ys si, H' Da = some (.lst acc) ∧ Ext U H1 H' ∧ Cap U H' si ∧ RpL U (owD ow Da) H' ys acc ∧
      Wp (compL (fun d => bindT ⟨Γ.N, L2.relS sc Γ.sc, sc⟩ (Py.wipe σd ((ownOf Γ.N tg).map (·.2))) tg d) (fun σ' => ifsE (rec σ') ifs) (fun σ' => rec σ' elt) (items.drop i)) si
        (fun zs s' => (ys ++ zs).length ≤ sline ∧ PostE U ow isL H Q (.list (ys ++ zs)) s') (fun _ _ => False), ⟨items.length, by simp, Nat.zero_le _, [], [], s1, upd_same, Ext.new hD, c1.new hD, RpL.nil, ?_⟩, ?_⟩
  · rw [List.drop_zero]
    exact w1.mono (fun zs s' h => by obtain ⟨hl, h⟩ := h.of_guard; exact ⟨by simpa using hl, by simpa using h.of_pure⟩) fun _ _ h => h
  · rintro i m H' ⟨rfl, hi', acc, ys, si, hDa, e', c', r, w'⟩
    have S2 := S1.grown hD e' c' hDa
    have hr : RlE U ow H1 (owD ow Da) H' := ⟨fun a u hu => by unfold owD; rw [if_neg (ne_of_none hu hD)], e'⟩
    obtain ⟨hgo, hstop⟩ := ito (owD ow Da) H' si hr S2.hk
    by_cases hlt : i < items.length
    · have hx : items[i]? = some items[i] := List.getElem?_eq_getElem hlt
      obtain ⟨go, hy⟩ := hgo i _ hx
      have hdr : items.drop i = items[i] :: items.drop (i + 1) := List.drop_eq_getElem_cons hlt
      rw [hdr] at w'
      refine .inr ⟨go, _, fun H'' z => ⟨items.length - (i + 1), by omega, rfl, hlt, z⟩, fun x H3 yl => ?_⟩
      obtain ⟨e3, c3, rx⟩ := hy x H3 yl
      have hD3 := e3 Da _ (S1.nocap hD) hDa
      have S3 : SR U H0 ow0 (owD ow Da) σ H3 σd si := S2.ext e3 c3
      obtain ⟨σ2d, hbT, w3⟩ := compL_wp w'
      refine ⟨H0, ow0, owD ow Da, _, si, items[i], σ2d, S3.wipe _, rx, bindT_to hbT, fun σ2 S4 sb => ⟨?_, ?_⟩⟩
      · rw [sb.wipe]
        exact (SameBut.wipe (σ := σ) (σ' := L2.wipe σ _) ⟨L2.wipe_length _ _, fun j hj => wipe_out hj⟩)
      · refine ⟨H0, ow0, owD ow Da, σ2d, si, S4, w3.mono (fun b s4 h4 H4 e4 c4 => ?_) fun _ _ z => z.elim⟩
        have hD4 := e4 Da _ (S1.nocap hD) hD3
        have r4 : RpL U (owD ow Da) H4 ys acc := (r.ext e3).ext e4
        have e14 : Ext U H1 H4 := (e'.trans e3).trans e4
        cases b with
        | false =>
          rw [if_neg (by decide)] at h4
          refine id ?_
          simp only [Bool.false_eq_true, if_false]
          exact ⟨acc, ys, s4, hD4, e14, c4, r4, h4⟩
        | true =>
          rw [if_pos rfl] at h4
          refine id ?_
          simp only [if_true]
          refine ⟨H0, ow0, owD ow Da, σ2d, s4, S4.ext e4 c4, h4.mono (fun y s5 h5 v5 H5 e5 c5 r5 _ => ?_) fun _ _ z => z.elim⟩
          have hD5 := e5 Da _ (S1.nocap hD) hD4
          have hlen : acc.length < sizeLine := by
            obtain ⟨zs, s6, h6⟩ := h5.ex
            have h7 : (ys ++ y :: zs).length ≤ sizeLine := h6.1
            have h8 := r4.length
            rw [List.length_append, List.length_cons] at h7
            omega
          refine ⟨acc, hD5, hlen, acc ++ [v5], ys ++ [y], s5, upd_same, fun a u ha hu => ?_, ?_, ?_, ?_⟩
          · rw [upd_ne (ne_of_none hu hD)]
            exact e5 a u ha (e14 a u ha hu)
          · exact ⟨by rw [upd_ne (fun z => S1.nocap hD z.symm)]; exact c5.row, by rw [upd_ne (fun z => by rw [← z, S1.cap.cells] at hD; cases hD)]; exact c5.cells, c5.ne⟩
          · exact RpL.mono keepU _ _ ((r4.ext e5).append (RpL.cons r5 RpL.nil))
          · exact h5.mono (fun zs s6 h6 => by simpa using h6) fun _ _ h => h
    · have hi2 : i = items.length := by omega
      subst hi2
      rw [List.drop_length] at w'
      obtain ⟨hl, q⟩ := (show Wp (pure []) si _ _ from w').of_pure
      rw [List.append_nil] at q
      refine .inl ⟨hstop, q (.ref Da) H' (e1.trans e') c' ?_ fun _ => ⟨Da, _, rfl, e1.none (S1.nocap hD) hD, hDa, S1.nocap hD, fun j => .inl ⟨ys, acc, rfl, rfl, RpL.mono keepD _ _ r⟩⟩⟩
      unfold Rp
      refine ⟨Da, acc, rfl, ⟨hDa, S1.noow hD, S1.nocap hD⟩, ?_⟩
      refine RpL.mono (fun a u _ ho e => ⟨e, ?_⟩) _ _ r
      unfold owD at ho
      by_cases h : a = Da
      · subst h; exact S1.noow hD
      · rw [if_neg h] at ho; exact ho
theorem pe_comp (g : Good U k Γ X W) {elt tg it : Expr} {ifs : List Expr} {sc : Scope} {pos : Pos} {fi : St → M (List D)} {rec : St → Expr → M D} (hi : PI X tg it (tOfI U W fi (RlE U))) (hs : ∀ x, foldedSetIterable it X.env x = pure x)
    (hb : L2.blkC Γ.N Γ.sc sc (ownOf Γ.N tg) = true)
    (hT : ∀ (Y : Cx), Good U k ⟨Γ.N, L2.relS sc Γ.sc, sc⟩ Y W0 → ∀ e, PT Y e (tOfT U W0 (fun σ => tst (rec σ) e)))
    (hE : ∀ (Y : Cx), Good U k ⟨Γ.N, L2.relS sc Γ.sc, sc⟩ Y W0 → ∀ e, PE Y e (tOf U W0 (fun σ => rec σ e) fun _ => false)) :
    PE X (.ListComp elt [⟨tg, it, ifs, 0⟩] sc pos) (tOf U W (fun σ => do
      let items ← fi σ
      let ys ← compB rec ⟨Γ.N, L2.relS sc Γ.sc, sc⟩ (Py.wipe σ ((ownOf Γ.N tg).map (·.2))) tg ifs elt items
      if ys.length ≤ sline then pure (.list ys) else fail) isL) := by
  have ok : BlkOk X.N X.env.scope sc (ownOf Γ.N tg) := by rw [g.N, g.sc]; exact blkOk_by hb
  exact PE.imp (pe_lc (g := gOf U ⟨Γ.N, L2.relS sc Γ.sc, sc⟩ tg ((ownOf Γ.N tg).map (·.2))) (tt := tOfT U W0 (fun σ => ifsE (rec σ) ifs)) (te := tOf U W0 (fun σ => rec σ elt) fun _ => false) g.calm (by rw [g.N]; exact g.nd) hi ok
    (fun s H C cl fp => pg_I (good_blk g) tg) (fun s H C cl fp => pts_I (hT _ (good_blk g)) ifs) (fun s H C cl fp => hE _ (good_blk g) elt) hs) fun σ H Q h => comp_imp g h
end
end Py

set_option Elab.async false
set_option linter.all false
set_option maxRecDepth 100000
set_option maxHeartbeats 1000000
/-! comprehensions of two walks -/
namespace Py
open PySem PySem.Spec PyProof.Rows L2
section
variable {U : Wd} {k : Nat} {Γ : Cxt} {X : Cx} {W : WX} {G : Gs} {H0 H H1 : Hp} {ow0 ow : Ow} {σ : L2.St} {σd : St} {s s1 : DS}
/-- only the new list has changed -/
theorem SR.regrown {D : Addr} (S : SR U H0 ow0 (owD ow D) σ H σd s) (h0 : H0 D = none) (hc : D ≠ U.cap) (hcl : D ≠ U.cell) {acc : List V} {H' : Hp} {s' : DS} (e : ∀ a u, a ≠ U.cap → a ≠ D → H a = some u → H' a = some u) (c : Cap U H' s') (h' : H' D = some (.lst acc)) : SR U H0 ow0 (owD ow D) σ H' σd s' := by
  have kp : Keep U (owD ow D) (owD ow D) H H' := fun a u ha ho hu => ⟨e a u ha (fun z => by subst z; unfold owD at ho; rw [if_pos rfl] at ho; cases ho) hu, ho⟩
  refine ⟨fun a h => ?_, S.capo, S.cello, S.own0, S.agr, fun a u ha hu => e a u ha (fun z => by rw [z, h0] at hu; cases hu) (S.base a u ha hu), fun j d o h => ?_, c, S.len⟩
  · by_cases hd : a = D
    · subst hd; exact ⟨_, h', fun xs z => nomatch z⟩
    · obtain ⟨u, hu, ht⟩ := S.trk a h
      exact ⟨u, e a u (fun z => by rw [z] at h; exact h S.capo) hd hu, ht⟩
  · obtain ⟨v, h1, h2, h3⟩ := S.slots j d o h
    refine ⟨v, h1, fun z => Rp.mono kp d v (h2 z), fun z => ?_⟩
    obtain ⟨a, u, e2, k1, k2, k3, r⟩ := h3 z
    refine ⟨a, u, e2, e a _ k3 (fun z => ?_) k1, k2, k3, Sh.mono kp r⟩
    subst z
    unfold owD at k2
    rw [if_pos rfl] at k2
    cases k2
/-- the rest of two walks -/
theorem compL2_wp {Γ : Cxt} {tg : Expr} {f : St → M Bool} {it : St → M (List D)} {vs : List Nat} {b2 : St → D → Option St} {f2 : St → M Bool} {gg : St → M D} {items : List D} {Q : List D → DS → Prop} {E : Exc → DS → Prop} {d : D} (w : Wp (compL2 (fun d => bindT Γ σd tg d) f it vs b2 f2 gg (d :: items)) s Q E) :
    ∃ σ', bindT Γ σd tg d = some σ' ∧ Wp (f σ') s (fun b s1 => if b = true then Wp (it σ') s1 (fun es s2 => Wp (compL (fun e => b2 (Py.wipe σ' vs) e) f2 gg es) s2 (fun ys s3 => Wp (compL2 (fun d => bindT Γ σd tg d) f it vs b2 f2 gg items) s3 (fun zs s4 => Q (ys ++ zs) s4) E) E) E else Wp (compL2 (fun d => bindT Γ σd tg d) f it vs b2 f2 gg items) s1 Q E) E := by
  unfold compL2 at w
  have w := w.of_bind
  unfold lift at w
  cases hb : bindT Γ σd tg d with
  | none => rw [hb] at w; exact w.of_fail.elim
  | some σ' =>
    rw [hb] at w
    refine ⟨σ', rfl, w.of_pure.of_bind.mono (fun b s1 h => ?_) fun _ _ h => h⟩
    cases b with
    | true =>
      rw [if_pos rfl] at h ⊢
      exact h.of_bind.mono (fun es s2 h2 => h2.of_bind.mono (fun ys s3 h3 => h3.of_bind.mono (fun zs s4 h4 => h4.of_pure) fun _ _ h => h) fun _ _ h => h) fun _ _ h => h
    | false =>
      rw [if_neg (by decide)] at h ⊢
      exact h
/-- heaps that differ at the new list alone -/
def ExtD (U : Wd) (D : Addr) (H H' : Hp) : Prop := ∀ a u, a ≠ U.cap → a ≠ D → H a = some u → H' a = some u
theorem RpL.extD {D : Addr} {H H' : Hp} (e : ExtD U D H H') {ds : List Py.D} {xs : List V} (r : RpL U (owD ow D) H ds xs) : RpL U (owD ow D) H' ds xs :=
  RpL.mono (fun a u ha ho hu => ⟨e a u ha (fun z => by subst z; unfold owD at ho; rw [if_pos rfl] at ho; cases ho) hu, ho⟩) _ _ r
theorem comp2_imp (g : Good U k Γ X W) {elt tg tg1 it1 : Expr} {ifs ifs1 : List Expr} {sc : Scope} {fi : St → M (List D)} {rec : St → Expr → M D} {σ : L2.St} {H : Hp} {Q : VK} (h : tOf U W (fun σ => do
      let items ← fi σ
      let ys ← compB2 G rec ⟨Γ.N, L2.relS sc Γ.sc, sc⟩ (Py.wipe σ ((own2 Γ.N tg tg1).map (·.2))) tg ifs tg1 it1 ifs1 elt items
      if ys.length ≤ sline then pure (.list ys) else fail) isL σ H Q) :
    tLc2 (tOfI U W fi (RlE U)) (gOf U ⟨Γ.N, L2.relS sc Γ.sc, sc⟩ tg ((ownOf Γ.N tg).map (·.2))) (tOfT U W0 (fun σ => ifsE (rec σ) ifs))
      (tOfI U W0 (fun σ => iterE G ⟨Γ.N, L2.relS sc Γ.sc, sc⟩ (rec σ) tg1 it1) (RlK U)) (gOf U ⟨Γ.N, L2.relS sc Γ.sc, sc⟩ tg1 ((ownOf Γ.N tg1).map (·.2))) (tOfT U W0 (fun σ => ifsE (rec σ) ifs1)) (tOf U W0 (fun σ => rec σ elt) fun _ => false) ((own2 Γ.N tg tg1).map (·.2)) ((ownOf Γ.N tg1).map (·.2)) σ H Q := by
  obtain ⟨H0, ow0, ow, σd, s, S, w⟩ := h
  refine ⟨H0, ow0, ow, σd, s, S, w.of_bind.mono (fun items s1 h1 J H1 e1 c1 ito => ?_) fun _ _ h => h⟩
  intro Da hD
  have S1 := S.ext e1 c1
  have hcap := S1.nocap hD
  have hcell : Da ≠ U.cell := fun z => by rw [z, S1.cap.cells] at hD; cases hD
  have h0D : H0 Da = none := by
    cases hh : H0 Da with
    | none => rfl
    | some u => rw [S1.base Da u hcap hh] at hD; cases hD
  have w1 := quiet_wp (show Wp (quiet _) s1 _ _ from h1.of_bind)
  -- what is left of the walks, ys being made
  let rest : List D → List D → M (List D) := fun items ys => compL2 (fun d => bindT ⟨Γ.N, L2.relS sc Γ.sc, sc⟩ (Py.wipe σd ((own2 Γ.N tg tg1).map (·.2))) tg d) (fun σ' => ifsE (rec σ') ifs) (fun σ' => iterE G ⟨Γ.N, L2.relS sc Γ.sc, sc⟩ (rec σ') tg1 it1) ((ownOf Γ.N tg1).map (·.2)) (fun σ d => bindT ⟨Γ.N, L2.relS sc Γ.sc, sc⟩ σ tg1 d) (fun σ' => ifsE (rec σ') ifs1) (fun σ' => rec σ' elt) items
  let Fin : List D → DS → Prop := fun zs s' => zs.length ≤ sline ∧ PostE U ow isL H Q (.list zs) s'
  refine ⟨fun i m H' => m = items.length - i ∧ i ≤ items.length ∧ ∃ acc ys si, H' Da = some (.lst acc) ∧ Ext U H1 H' ∧ Cap U H' si ∧ RpL U (owD ow Da) H' ys acc ∧
      Wp (rest (items.drop i) ys) si (fun zs s' => Fin (ys ++ zs) s') (fun _ _ => False), ⟨items.length, by simp, Nat.zero_le _, [], [], s1, upd_same, Ext.new hD, c1.new hD, RpL.nil, ?_⟩, ?_⟩
  · rw [List.drop_zero]
    exact w1.mono (fun zs s' h => by obtain ⟨hl, h⟩ := h.of_guard; exact ⟨by simpa using hl, by simpa using h.of_pure⟩) fun _ _ h => h
  · rintro i m H' ⟨rfl, hi', acc, ys, si, hDa, e', c', r, w'⟩
    have S2 := S1.grown hD e' c' hDa
    have hr : RlE U ow H1 (owD ow Da) H' := ⟨fun a u hu => by unfold owD; rw [if_neg (ne_of_none hu hD)], e'⟩
    obtain ⟨hgo, hstop⟩ := ito (owD ow Da) H' si hr S2.hk
    by_cases hlt : i < items.length
    · have hx : items[i]? = some items[i] := List.getElem?_eq_getElem hlt
      obtain ⟨go, hy⟩ := hgo i _ hx
      have hdr : items.drop i = items[i] :: items.drop (i + 1) := List.drop_eq_getElem_cons hlt
      rw [hdr] at w'
      refine .inr ⟨go, (fun H'' => ∃ acc ys si, H'' Da = some (.lst acc) ∧ Ext U H1 H'' ∧ Cap U H'' si ∧ RpL U (owD ow Da) H'' ys acc ∧
        Wp (rest (items.drop (i + 1)) ys) si (fun zs s' => Fin (ys ++ zs) s') (fun _ _ => False)), fun H'' z => ⟨items.length - (i + 1), by omega, rfl, hlt, z⟩, fun x H3 yl => ?_⟩
      obtain ⟨e3, c3, rx⟩ := hy x H3 yl
      have hD3 := e3 Da _ hcap hDa
      have S3 : SR U H0 ow0 (owD ow Da) σ H3 σd si := S2.ext e3 c3
      obtain ⟨σ2d, hbT, w3⟩ := compL2_wp w'
      have hsub : ∀ j ∈ (ownOf Γ.N tg).map (·.2), j ∈ (own2 Γ.N tg tg1).map (·.2) := fun j hj => by unfold own2; rw [List.map_append]; exact List.mem_append_left _ hj
      refine ⟨H0, ow0, owD ow Da, _, si, items[i], σ2d, S3.wipe _, rx, bindT_to hbT, fun σ2 S4 sb => ⟨?_, ?_⟩⟩
      · have sb2 := SameBut.trans (SameBut.refl (is := (ownOf Γ.N tg).map (·.2)) (σ := L2.wipe σ ((own2 Γ.N tg tg1).map (·.2)))) (SameBut.trans sb (SameBut.refl (is := (own2 Γ.N tg tg1).map (·.2))) hsub) hsub
        rw [sb2.wipe]
        exact (SameBut.wipe (σ := σ) (σ' := L2.wipe σ _) ⟨L2.wipe_length _ _, fun j hj => wipe_out hj⟩)
      · refine ⟨H0, ow0, owD ow Da, σ2d, si, S4, w3.mono (fun b s4 h4 H4 e4 c4 => ?_) fun _ _ z => z.elim⟩
        have hD4 := e4 Da _ hcap hD3
        have r4 : RpL U (owD ow Da) H4 ys acc := (r.ext e3).ext e4
        have e14 : Ext U H1 H4 := (e'.trans e3).trans e4
        cases b with
        | false =>
          rw [if_neg (by decide)] at h4
          refine id ?_
          simp only [Bool.false_eq_true, if_false]
          exact ⟨acc, ys, s4, hD4, e14, c4, r4, h4⟩
        | true =>
          rw [if_pos rfl] at h4
          refine id ?_
          simp only [if_true]
          refine ⟨H0, ow0, owD ow Da, σ2d, s4, S4.ext e4 c4, h4.mono (fun es s5 h5 J1 H5 e5 c5 ito1 => ?_) fun _ _ z => z.elim⟩
          have S5 : SR U H0 ow0 (owD ow Da) σ2 H5 σ2d s5 := (S4.ext e4 c4).ext e5 c5
          have hD5 := e5 Da _ hcap hD4
          refine ⟨fun j kk H' => kk = es.length - j ∧ j ≤ es.length ∧ ∃ acc ys si, H' Da = some (.lst acc) ∧ ExtD U Da H5 H' ∧ Ext U H1 H' ∧ Cap U H' si ∧ RpL U (owD ow Da) H' ys acc ∧
            Wp (compL (fun e => bindT ⟨Γ.N, L2.relS sc Γ.sc, sc⟩ (Py.wipe σ2d ((ownOf Γ.N tg1).map (·.2))) tg1 e) (fun σ' => ifsE (rec σ') ifs1) (fun σ' => rec σ' elt) (es.drop j)) si
              (fun us s3 => Wp (rest (items.drop (i + 1)) (ys ++ us)) s3 (fun zs s4 => Fin ((ys ++ us) ++ zs) s4) (fun _ _ => False)) (fun _ _ => False),
            ⟨es.length, by simp, Nat.zero_le _, acc, ys, s5, hD5, fun a u _ _ h => h, e14.trans e5, c5, r4.ext e5, ?_⟩, ?_⟩
          · rw [List.drop_zero]
            exact h5.mono (fun us s3 h => h.mono (fun zs s4 h => by rw [List.append_assoc]; exact h) fun _ _ h => h) fun _ _ h => h
          · rintro j kk H6 ⟨rfl, hj', acc6, ys6, s6, hD6, ed6, e16, c6, r6, w6⟩
            have S6 : SR U H0 ow0 (owD ow Da) σ2 H6 σ2d s6 := S5.regrown h0D hcap hcell ed6 c6 hD6
            have hr6 : RlK U (owD ow Da) H5 (owD ow Da) H6 := fun a u ha ho hu => ⟨ed6 a u ha (fun z => by subst z; unfold owD at ho; rw [if_pos rfl] at ho; cases ho) hu, ho⟩
            obtain ⟨hgo6, hstop6⟩ := ito1 (owD ow Da) H6 s6 hr6 S6.hk
            by_cases hlt6 : j < es.length
            · have hx6 : es[j]? = some es[j] := List.getElem?_eq_getElem hlt6
              obtain ⟨go6, hy6⟩ := hgo6 j _ hx6
              have hdr6 : es.drop j = es[j] :: es.drop (j + 1) := List.drop_eq_getElem_cons hlt6
              rw [hdr6] at w6
              refine .inr ⟨go6, _, fun H'' z => ⟨es.length - (j + 1), by omega, rfl, hlt6, z⟩, fun x H7 yl => ?_⟩
              obtain ⟨e7, c7, rx7⟩ := hy6 x H7 yl
              have hD7 := e7 Da _ hcap hD6
              have S7 : SR U H0 ow0 (owD ow Da) σ2 H7 σ2d s6 := S6.ext e7 c7
              obtain ⟨σ3d, hbT7, w7⟩ := compL_wp w6
              refine ⟨H0, ow0, owD ow Da, _, s6, es[j], σ3d, S7.wipe _, rx7, bindT_to hbT7, fun σ3 S8 sb => ⟨?_, ?_⟩⟩
              · rw [sb.wipe]
                exact (SameBut.wipe (σ := σ2) (σ' := L2.wipe σ2 _) ⟨L2.wipe_length _ _, fun j hj => wipe_out hj⟩)
              · refine ⟨H0, ow0, owD ow Da, σ3d, s6, S8, w7.mono (fun b s8 h8 H8 e8 c8 => ?_) fun _ _ z => z.elim⟩
                have hD8 := e8 Da _ hcap hD7
                have r8 : RpL U (owD ow Da) H8 ys6 acc6 := (r6.ext e7).ext e8
                have e18 : Ext U H1 H8 := (e16.trans e7).trans e8
                have ed8 : ExtD U Da H5 H8 := fun a u ha hd hu => e8 a u ha (e7 a u ha (ed6 a u ha hd hu))
                cases b with
                | false =>
                  rw [if_neg (by decide)] at h8
                  refine id ?_
                  simp only [Bool.false_eq_true, if_false]
                  exact ⟨acc6, ys6, s8, hD8, ed8, e18, c8, r8, h8⟩
                | true =>
                  rw [if_pos rfl] at h8
                  refine id ?_
                  simp only [if_true]
                  refine ⟨H0, ow0, owD ow Da, σ3d, s8, S8.ext e8 c8, h8.mono (fun y s9 h9 v9 H9 e9 c9 r9 _ => ?_) fun _ _ z => z.elim⟩
                  have hD9 := e9 Da _ hcap hD8
                  have hlen : acc6.length < sizeLine := by
                    obtain ⟨us, s10, h10⟩ := h9.ex
                    obtain ⟨zs, s11, h11⟩ := h10.ex
                    have h12 : ((ys6 ++ y :: us) ++ zs).length ≤ sizeLine := h11.1
                    have h13 := r8.length
                    rw [List.length_append, List.length_append, List.length_cons] at h12
                    omega
                  refine ⟨acc6, hD9, hlen, acc6 ++ [v9], ys6 ++ [y], s9, upd_same, fun a u ha hd hu => ?_, fun a u ha hu => ?_, ?_, ?_, ?_⟩
                  · rw [upd_ne hd]
                    exact e9 a u ha (ed8 a u ha hd hu)
                  · rw [upd_ne (ne_of_none hu hD)]
                    exact e9 a u ha (e18 a u ha hu)
                  · exact ⟨by rw [upd_ne (fun z => hcap z.symm)]; exact c9.row, by rw [upd_ne (fun z => hcell z.symm)]; exact c9.cells, c9.ne⟩
                  · exact RpL.mono keepU _ _ ((r8.ext e9).append (RpL.cons r9 RpL.nil))
                  · exact h9.mono (fun us s10 h10 => by simpa using h10) fun _ _ h => h
            · have hj2 : j = es.length := by omega
              subst hj2
              rw [List.drop_length] at w6
              have q := (show Wp (pure []) s6 _ _ from w6).of_pure
              rw [List.append_nil] at q
              exact .inl ⟨hstop6, acc6, ys6, s6, hD6, e16, c6, r6, q⟩
    · have hi2 : i = items.length := by omega
      subst hi2
      rw [List.drop_length] at w'
      obtain ⟨hl, q⟩ := (show Wp (pure []) si _ _ from w').of_pure
      rw [List.append_nil] at q
      refine .inl ⟨hstop, q (.ref Da) H' (e1.trans e') c' ?_ fun _ => ⟨Da, _, rfl, e1.none hcap hD, hDa, hcap, fun j => .inl ⟨ys, acc, rfl, rfl, RpL.mono keepD _ _ r⟩⟩⟩
      unfold Rp
      refine ⟨Da, acc, rfl, ⟨hDa, S1.noow hD, hcap⟩, ?_⟩
      refine RpL.mono (fun a u _ ho e => ⟨e, ?_⟩) _ _ r
      unfold owD at ho
      by_cases h : a = Da
      · subst h; exact S1.noow hD
      · rw [if_neg h] at ho; exact ho
theorem hv2 {N : List Str} {tg tg1 : Expr} : ∀ i ∈ (ownOf N tg1).map (·.2), i ∈ (own2 N tg tg1).map (·.2) := fun j hj => by
  unfold own2
  rw [List.map_append]
  exact List.mem_append_right _ hj
theorem fold2 {it1 : Expr} (h : isSet it1 = false) : ∀ env x, foldedSetIterable it1 env x = pure x := fun env => fold_ok fun es j p z => by subst z; cases h
theorem pe_comp2 (g : Good U k Γ X W) (go : GlOk U k G) {elt tg it tg1 it1 : Expr} {ifs ifs1 : List Expr} {sc : Scope} {pos : Pos} {fi : St → M (List D)} {rec : St → Expr → M D} (hi : PI X tg it (tOfI U W fi (RlE U))) (hs : ∀ x, foldedSetIterable it X.env x = pure x)
    (hb : L2.blkC Γ.N Γ.sc sc (own2 Γ.N tg tg1) = true) (hset : isSet it1 = false)
    (hT : ∀ (Y : Cx), Good U k ⟨Γ.N, L2.relS sc Γ.sc, sc⟩ Y W0 → ∀ e, PT Y e (tOfT U W0 (fun σ => tst (rec σ) e)))
    (hE : ∀ (Y : Cx), Good U k ⟨Γ.N, L2.relS sc Γ.sc, sc⟩ Y W0 → ∀ e, PE Y e (tOf U W0 (fun σ => rec σ e) fun _ => false)) :
    PE X (.ListComp elt [⟨tg, it, ifs, 0⟩, ⟨tg1, it1, ifs1, 0⟩] sc pos) (tOf U W (fun σ => do
      let items ← fi σ
      let ys ← compB2 G rec ⟨Γ.N, L2.relS sc Γ.sc, sc⟩ (Py.wipe σ ((own2 Γ.N tg tg1).map (·.2))) tg ifs tg1 it1 ifs1 elt items
      if ys.length ≤ sline then pure (.list ys) else fail) isL) := by
  have ok : BlkOk X.N X.env.scope sc (own2 Γ.N tg tg1) := by rw [g.N, g.sc]; exact blkOk_by hb
  have hq : ∀ (Y : Cx), Good U k ⟨Γ.N, L2.relS sc Γ.sc, sc⟩ Y W0 → ∀ e, PE Y e (tOfQ U W0 (Rp U) (fun σ => rec σ e)) := fun Y gY e => PE.imp (hE Y gY e) fun σ H Q h => by
    obtain ⟨H0, ow0, ow, σd, s, S, w⟩ := h
    exact ⟨H0, ow0, ow, σd, s, S, w.mono (fun d s' q v H' e c r _ => q v H' e c r) fun _ _ h => h⟩
  exact PE.imp (pe_lc2 (g := gOf U ⟨Γ.N, L2.relS sc Γ.sc, sc⟩ tg ((ownOf Γ.N tg).map (·.2))) (tt := tOfT U W0 (fun σ => ifsE (rec σ) ifs)) (wi1 := tOfI U W0 (fun σ => iterE G ⟨Γ.N, L2.relS sc Γ.sc, sc⟩ (rec σ) tg1 it1) (RlK U)) (g1 := gOf U ⟨Γ.N, L2.relS sc Γ.sc, sc⟩ tg1 ((ownOf Γ.N tg1).map (·.2))) (tt1 := tOfT U W0 (fun σ => ifsE (rec σ) ifs1)) (te := tOf U W0 (fun σ => rec σ elt) fun _ => false) g.calm (by rw [g.N]; exact g.nd) hi ok hv2
    (fun s H C cl fp => pg_I (good_blk g) tg) (fun s H C cl fp => pts_I (hT _ (good_blk g)) ifs)
    (fun s H C cl fp => (pi_iterE (good_blk g) go (srcK U) (f := fun σ => rec σ) (hq _ (good_blk g))).1)
    (fun s H C cl fp => pg_I (good_blk g) tg1) (fun s H C cl fp => pts_I (hT _ (good_blk g)) ifs1) (fun s H C cl fp => hE _ (good_blk g) elt) hs (fold2 hset)) fun σ H Q h => comp2_imp g h
end
end Py

set_option Elab.async false
set_option linter.all false
set_option maxRecDepth 100000
set_option maxHeartbeats 1000000
namespace Py
open PySem PySem.Spec PyProof.Rows L2
/-! written dicts -/
section
variable {U : Wd} {k : Nat} {Γ : Cxt} {X : Cx} {W : WX} {G : Gs} {H0 H H1 : Hp} {ow0 ow : Ow} {σ : L2.St} {σd : St} {s s1 : DS}
def trsOf (U : Wd) (W : WX) (f : St → Expr → M D) : List (Option Expr) → List Expr → List (TE × TE)
  | some k :: ks, v :: vs => (tOf U W (fun σ => f σ k) fun _ => false, tOf U W (fun σ => f σ v) fun _ => false) :: trsOf U W f ks vs
  | _, _ => []
theorem pps_all {f : St → Expr → M D} (hE : ∀ e, PE X e (tOf U W (fun σ => f σ e) fun _ => false)) {pos : Pos} : ∀ (ks : List (Option Expr)) (vs : List Expr), ks.all (·.isSome) = true → ks.length = vs.length → PPs X pos ks vs (trsOf U W f ks vs)
  | [], [], _, _ => pps_nil
  | none :: ks, _, h, _ => by cases h
  | some k :: ks, v :: vs, h, hl => pps_cons (hE k) (hE v) (pps_all hE ks vs (by simpa using h) (by simpa using hl))
  | [], _ :: _, _, hl => by cases hl
  | _ :: _, [], _, hl => by cases hl
/-- pairs as they come -/
def RpP (U : Wd) (ow : Ow) (H : Hp) : List (D × D) → List (V × V) → Prop
  | [], xs => xs = []
  | p :: ps, xs => ∃ a b ys, xs = (a, b) :: ys ∧ Rp U ow H p.1 a ∧ Rp U ow H p.2 b ∧ RpP U ow H ps ys
theorem RpP.ext {H' : Hp} (e : Ext U H H') : ∀ {ps : List (D × D)} {xs : List (V × V)}, RpP U ow H ps xs → RpP U ow H' ps xs
  | [], _, h => by unfold RpP at h ⊢; exact h
  | p :: ps, _, h => by
    unfold RpP at h ⊢
    obtain ⟨a, b, ys, e1, h1, h2, h3⟩ := h
    exact ⟨a, b, ys, e1, h1.ext e, h2.ext e, RpP.ext e h3⟩
theorem keyV {d : D} {kk : Key} {v : V} (h : Rp U ow H d v) (e : keyD d = some kk) : v = kV kk := by
  cases d with
  | int i => unfold keyD at e; cases e; unfold Rp at h; exact h
  | str i => unfold keyD at e; cases e; unfold Rp at h; exact h
  | _ => cases e
theorem RpP.dict : ∀ {ps : List (D × D)} {xs : List (V × V)}, RpP U ow H ps xs → dOk ps = true → ∃ kvs : List (Key × V), xs = kvs.map (fun kv => (kV kv.1, kv.2)) ∧ RpD U ow H ps kvs ∧ kvs.map (fun kv => some kv.1) = ps.map fun p => keyD p.1
  | [], _, h, _ => by unfold RpP at h; exact ⟨[], h, RpD.nil, rfl⟩
  | p :: ps, _, h, ho => by
    unfold RpP at h
    obtain ⟨a, b, ys, e1, h1, h2, h3⟩ := h
    unfold dOk at ho
    rw [List.all_cons, Bool.and_eq_true] at ho
    obtain ⟨kk, hk⟩ := Option.isSome_iff_exists.mp ho.1
    obtain ⟨kvs, e2, r, e3⟩ := RpP.dict h3 ho.2
    exact ⟨(kk, b) :: kvs, by rw [e1, keyV h1 hk, e2]; rfl, RpD.cons hk h2 r, by rw [List.map_cons, List.map_cons, hk, e3]⟩
theorem mergeK_new : ∀ (more acc : List (Key × V)), ((acc ++ more).map (·.1)).Nodup → mergeK acc more = acc ++ more
  | [], acc, _ => by rw [List.append_nil]; rfl
  | p :: more, acc, h => by
    have hk : valV acc p.1 = none := by
      unfold valV
      cases hf : acc.find? (fun kv => decide (kv.1 = p.1)) with
      | none => rfl
      | some q =>
        exfalso
        have h1 := List.find?_some hf
        have h2 := List.mem_of_find?_eq_some hf
        rw [List.map_append, List.nodup_append] at h
        exact h.2.2 q.1 (List.mem_map_of_mem h2) p.1 (by simp) (by simpa using h1)
    have e : putK acc p.1 p.2 = acc ++ [p] := putK_new p.2 hk
    have ih := mergeK_new more (acc ++ [p]) (by rw [List.append_assoc]; exact h)
    show mergeK (putK acc p.1 p.2) more = _
    rw [e, ih, List.append_assoc]
    rfl
theorem pairs_imp {f : St → Expr → M D} : ∀ (ks : List (Option Expr)) (vs : List Expr) {H1 : Hp} {s1 : DS} {R : List (V × V) → Hp → Prop} (_ : SR U H0 ow0 ow σ H1 σd s1) {Qd : List (D × D) → DS → Prop} {Qx : Exc → DS → Prop} (_ : Wp (evPairs (f σd) ks vs) s1 Qd Qx)
    (_ : ∀ x s', Qx x s' → PostX U W σ H1 x s') (_ : ∀ ps s', Qd ps s' → ∀ xs H2, Ext U H1 H2 → Cap U H2 s' → RpP U ow H2 ps xs → ps.length = ks.length → R xs H2), tPairs (trsOf U W f ks vs) σ H1 R
  | [], [], H1, s1, R, S, Qd, Qx, w, _, hq => by
    have w : Wp (pure [] : M (List (D × D))) s1 Qd Qx := w
    exact hq _ _ w.of_pure [] H1 Ext.refl S.cap (by unfold RpP; rfl) rfl
  | some k :: ks, v :: vs, H1, s1, R, S, Qd, Qx, w, hx, hq => by
    have w : Wp (do let x ← f σd k; let y ← f σd v; let r ← evPairs (f σd) ks vs; pure ((x, y) :: r)) s1 Qd Qx := w
    refine ⟨H0, ow0, ow, σd, s1, S, w.of_bind.mono (fun dk s2 w2 vk H2 e2 c2 r2 _ => ?_) fun x s' h => hx x s' h⟩
    refine ⟨H0, ow0, ow, σd, s2, S.ext e2 c2, w2.of_bind.mono (fun dv s3 w3 vv H3 e3 c3 r3 _ => ?_) fun x s' h => (hx x s' h).ext e2⟩
    refine pairs_imp ks vs ((S.ext e2 c2).ext e3 c3) w3.of_bind (fun x s' h => ((hx x s' h).ext e2).ext e3) fun ps s4 w4 xs H4 e4 c4 r4 hl4 => ?_
    exact hq _ _ w4.of_pure ((vk, vv) :: xs) H4 ((e2.trans e3).trans e4) c4 (by unfold RpP; exact ⟨vk, vv, xs, rfl, (r2.ext e3).ext e4, r3.ext e4, r4⟩) (by rw [List.length_cons, List.length_cons, hl4])
  | none :: _, _, _, _, _, _, _, _, w, _, _ => by
    have w : Wp (fail : M (List (D × D))) _ _ _ := w
    exact w.of_fail.elim
  | [], _ :: _, _, _, _, _, _, _, w, _, _ => by
    have w : Wp (fail : M (List (D × D))) _ _ _ := w
    exact w.of_fail.elim
  | some _ :: _, [], _, _, _, _, _, _, w, _, _ => by
    have w : Wp (fail : M (List (D × D))) _ _ _ := w
    exact w.of_fail.elim
theorem pe_dict2 (g : Good U k Γ X W) {f : St → Expr → M D} (hE : ∀ e, PE X e (tOf U W (fun σ => f σ e) fun _ => false)) {ks : List (Option Expr)} {vs : List Expr} {pos : Pos} (hs : ks.length ≤ 15 ∧ ks.all (·.isSome) = true ∧ ks.length = vs.length) :
    PE X (.Dict ks vs pos) (tOf U W (fun σ => do let ps ← evPairs (f σ) ks vs; if dOk ps = true ∧ (ps.map fun p => keyD p.1).Nodup then pure (.dict ps) else fail) isL) := by
  obtain ⟨h15, hall, hl⟩ := hs
  by_cases h0 : ks = []
  · subst h0
    cases vs with
    | cons _ _ => cases hl
    | nil =>
      refine PE.imp pe_dnewK fun σ H Q h p np => ?_
      obtain ⟨H0, ow0, ow, σd, s, S, w⟩ := h
      have w : Wp (pure (.dict []) : M D) s _ _ := w
      have hc := S.nocap np
      refine w.of_pure (.ref p) _ (Ext.new np) (S.cap.new np) ?_ fun _ => ⟨p, _, rfl, np, upd_same, hc, fun i => .inr ⟨[], [], rfl, rfl, RpD.nil⟩⟩
      unfold Rp
      exact .inr ⟨p, [], rfl, .inl ⟨upd_same, S.noow np, hc⟩, RpD.nil⟩
  · refine PE.imp (pe_disp (pps_all hE ks vs hall hl) hall hl h0 h15) fun σ H Q h p np => ?_
    obtain ⟨H0, ow0, ow, σd, s, S, w⟩ := h
    have hc := S.nocap np
    have e1 : Ext U H (upd H p (.dK [])) := Ext.new np
    have S1 := S.grownU (u0 := .dK []) np (fun _ z => nomatch z) e1 (S.cap.new np) upd_same
    refine pairs_imp ks vs S1 w.of_bind (fun x s' h => h.ext e1) fun ps s' w' xs H2 e2 c2 r2 hl2 => ?_
    obtain ⟨⟨hok, hnd⟩, w'⟩ := w'.of_guard
    obtain ⟨kvs, ex, rd, ek⟩ := r2.dict hok
    have hp2 : H2 p = some (.dK []) := e2 p _ hc upd_same
    have hnd' : (List.map (fun kv : Key × V => kv.1) ([] ++ kvs)).Nodup := by
      rw [← ek] at hnd
      have h2 : ((kvs.map fun kv => kv.1).map some).Nodup := by rw [List.map_map]; exact hnd
      have h3 : (kvs.map fun kv => kv.1).Nodup := by
        rw [List.nodup_iff_pairwise_ne] at h2 ⊢
        rw [List.pairwise_map] at h2
        exact h2.imp fun h e => h (congrArg some e)
      exact h3
    have hm : mergeK [] kvs = kvs := by rw [mergeK_new kvs [] hnd']; rfl
    have hlen : kvs.length ≤ 15 := by
      rw [← rd.length, hl2]; exact h15
    refine ⟨hp2, kvs, ex, hlen, ?_⟩
    rw [hm]
    have kp : ∀ i : Option Nat, Keep U (owD ow p) (fun b => if b = p then i else ow b) H2 (upd H2 p (.dK kvs)) := fun i a u ha ho hu => by
      unfold owD at ho
      by_cases hap : a = p
      · subst hap; rw [if_pos rfl] at ho; cases ho
      · rw [if_neg hap] at ho
        exact ⟨by rw [upd_ne hap]; exact hu, by show (if a = p then i else ow a) = none; rw [if_neg hap]; exact ho⟩
    have kn : Keep U (owD ow p) ow H2 (upd H2 p (.dK kvs)) := fun a u ha ho hu => by
      unfold owD at ho
      by_cases hap : a = p
      · subst hap; rw [if_pos rfl] at ho; cases ho
      · rw [if_neg hap] at ho
        exact ⟨by rw [upd_ne hap]; exact hu, ho⟩
    refine w'.of_pure (.ref p) _ (fun a u ha hu => ?_) ⟨?_, ?_, c2.ne⟩ ?_ fun _ => ⟨p, _, rfl, np, upd_same, hc, fun i => .inr ⟨ps, kvs, rfl, rfl, RpD.mono (kp (some i)) _ _ rd⟩⟩
    · have hap : a ≠ p := ne_of_none hu np
      rw [upd_ne hap]
      exact e2 a u ha (e1 a u ha hu)
    · rw [upd_ne (fun z => hc z.symm)]; exact c2.row
    · rw [upd_ne (fun z => by rw [← z, S.cap.cells] at np; cases np)]; exact c2.cells
    · unfold Rp
      exact .inr ⟨p, kvs, rfl, .inl ⟨upd_same, S.noow np, hc⟩, RpD.mono kn _ _ rd⟩
end
end Py

set_option Elab.async false
set_option linter.all false
set_option maxRecDepth 100000
set_option maxHeartbeats 1000000
namespace Py
open PySem PySem.Spec PyProof.Rows L2
section
variable {U : Wd} {k : Nat} {Γ : Cxt} {X : Cx} {W : WX} {G : Gs} {ow ow0 : Ow} {H H0 : Hp} {s : DS}
theorem rngArg_ok {f : Str} {args rs : List Expr} (h : rngArg f args = some rs) : (f = ("list" : Str) ∨ f = ("tuple" : Str)) ∧ ∃ p pos, args = [.Call (.Name "range" p) rs [] pos] ∧ ((∃ a, rs = [a] ∧ notStar a = true) ∨ ∃ a b, rs = [a, b] ∧ notStar a = true ∧ notStar b = true) := by
  unfold rngArg at h
  split at h
  · split at h
    · rename_i c
      cases h
      obtain ⟨rfl, c1, c2⟩ := c
      exact ⟨c1, _, _, rfl, .inl ⟨_, rfl, c2⟩⟩
    · cases h
  · split at h
    · rename_i c
      cases h
      obtain ⟨rfl, c1, c2, c3⟩ := c
      exact ⟨c1, _, _, rfl, .inr ⟨_, _, rfl, c2, c3⟩⟩
    · cases h
  · cases h
theorem rg_ints (a b : Int) (n : Nat) (h : n = (b - a).toNat) : RpL U ow H (rangeD a n) (rgV a b) := by
  subst h
  have := RpL.ints (U := U) (ow := ow) (H := H) ((List.range (b - a).toNat).map fun i => a + (i : Nat))
  rw [List.map_map, List.map_map] at this
  exact this
/-- what is made of a range -/
theorem rng_end (hk : Hk U ow H s) {f : Str} {a b : Int} {n : Nat} {Q : VK} (hn : n = (b - a).toNat) (h1 : in62 a = true) (h2 : in62 b = true) {H1 : Hp} {s1 : DS} (S1 : Hk U ow H1 s1) (e1 : Ext U H H1)
    (hl : (rangeD a n).length ≤ sline) (w : PostE U ow (fun d => frB f && isL d) H Q (if f = ("list" : Str) then .list (rangeD a n) else .tuple (rangeD a n)) s1) :
    RgOk a b ∧ ∀ q, H1 q = none → (f = ("list" : Str) → Q (.ref q) (upd H1 q (.lst (rgV a b)))) ∧ (f = ("tuple" : Str) → Q (.ref q) (upd H1 q (.tup (rgV a b)))) := by
  obtain ⟨b1, b2⟩ := in62_ok h1
  obtain ⟨b3, b4⟩ := in62_ok h2
  have hz : (rangeD a n).length = n := by unfold rangeD; simp
  refine ⟨⟨b1, b2, b3, b4, ?_⟩, fun q hq => ⟨fun hf => ?_, fun hf => ?_⟩⟩
  · rw [hz] at hl
    have : sline = 2 ^ 24 := by decide
    omega
  · subst hf
    rw [if_pos rfl] at w
    exact S1.newL _ (rg_ints a b n hn) (w.ext e1) hq
  · subst hf
    rw [if_neg (by decide)] at w
    exact S1.newT _ (rg_ints a b n hn) (w.ext e1) rfl hq
theorem pe_lrg (g : Good U k Γ X W) (go : GlOk U k G) {h : Str} {args rs : List Expr} {p' pos : Pos} {f : St → Expr → M D} (hP : ∀ e, PE X e (tOfP U W (fun σ => f σ e))) (hr : rngArg h args = some rs) (h1 : L2.Gl X h) (h2 : X.mg h = none) :
    PE X (.Call (.Name h p') args [] pos) (tOf U W (fun σ => rngE G Γ (f σ) h rs) (fun d => frB h && isL d)) := by
  by_cases hg : gname G Γ "range" = true
  case neg => exact PE.fails fun σ => by unfold rngE; rw [if_neg hg]
  obtain ⟨hf, p, q, rfl, hrs⟩ := rngArg_ok hr
  have hg' : okName "range" = true ∧ kindG Γ.sc "range" = true ∧ G.bare "range" = true := by
    unfold gname at hg
    simp only [Bool.and_eq_true] at hg
    exact ⟨hg.1.1, hg.1.2, hg.2⟩
  have r1 : L2.Gl X ("range" : Str) := kindG_gl g hg'.2.1
  obtain ⟨_, r2, _, _⟩ := gname_ok g go hg'.1 hg'.2.1 hg'.2.2
  rcases hrs with ⟨a, rfl, na⟩ | ⟨a, b, rfl, na, nb⟩
  · have hs : starEach [a] X.env = (false, eval a X.env) :: starEach [] X.env := starEach_ns na
    have pr := prg_1 (pos := q) (p := p) r1 r2 (hP a) hs
    have fin : ∀ σ H Q, tOf U W (fun σ => rngE G Γ (f σ) h [a]) (fun d => frB h && isL d) σ H Q → tRg1 (tOfP U W fun σ => f σ a) σ H (fun a b H1 => RgOk a b ∧ ∀ q, H1 q = none → (h = ("list" : Str) → Q (.ref q) (upd H1 q (.lst (rgV a b)))) ∧ (h = ("tuple" : Str) → Q (.ref q) (upd H1 q (.tup (rgV a b))))) := fun σ H Q t => by
      obtain ⟨H0, ow0, ow, σd, s, S, w⟩ := t
      have w : Wp (rngE G Γ (f σd) h [a]) s _ _ := w
      unfold rngE at w
      rw [if_pos hg] at w
      unfold evs at w
      rw [if_pos na] at w
      refine ⟨H0, ow0, ow, σd, s, S, w.of_bind.of_bind.mono (fun d s1 w1 v H1 e1 c1 pk => ?_) fun _ _ z => z⟩
      have w1 := w1.of_bind.of_pure.of_pure.of_bind
      rw [iterC_rng] at w1
      cases d with
      | int n =>
        obtain ⟨h62, w1⟩ := w1.of_guard
        obtain ⟨hl, w1⟩ := w1.of_pure.of_guard
        refine ⟨n, pk.int, ?_⟩
        exact rng_end S.hk (by rw [Int.sub_zero]) (by decide) h62 (S.ext e1 c1).hk e1 hl w1.of_pure
      | _ => exact w1.of_fail.elim
    rcases hf with rfl | rfl
    · exact PE.imp (pe_listRg g.calm h1 h2 pr (starEach_ns rfl)) fun σ H Q t => by
        obtain ⟨H0, ow0, ow, σd, s, S, w⟩ := fin σ H Q t
        exact ⟨H0, ow0, ow, σd, s, S, w.mono (fun d s1 z v H1 e c pk => by
          obtain ⟨n, e1, e2, e3⟩ := z v H1 e c pk
          exact ⟨n, e1, e2, fun q hq => (e3 q hq).1 rfl⟩) fun _ _ z => z⟩
    · exact PE.imp (pe_tupRg g.calm h1 h2 pr (starEach_ns rfl)) fun σ H Q t => by
        obtain ⟨H0, ow0, ow, σd, s, S, w⟩ := fin σ H Q t
        exact ⟨H0, ow0, ow, σd, s, S, w.mono (fun d s1 z v H1 e c pk => by
          obtain ⟨n, e1, e2, e3⟩ := z v H1 e c pk
          exact ⟨n, e1, e2, fun q hq => (e3 q hq).2 rfl⟩) fun _ _ z => z⟩
  · have hs : starEach [a, b] X.env = (false, eval a X.env) :: starEach [b] X.env := starEach_ns na
    have hs2 : starEach [b] X.env = (false, eval b X.env) :: starEach [] X.env := starEach_ns nb
    have hp : (backTo q (starEach [b] X.env)).any (·.1) = false := plain_star fun e he => by simp at he; subst he; exact nb
    have pr := prg_2 (pos := q) (p := p) r1 r2 (hP a) (hP b) hs hs2 hp
    have fin : ∀ σ H Q, tOf U W (fun σ => rngE G Γ (f σ) h [a, b]) (fun d => frB h && isL d) σ H Q → tRg2 (tOfP U W fun σ => f σ a) (tOfP U W fun σ => f σ b) σ H (fun a b H1 => RgOk a b ∧ ∀ q, H1 q = none → (h = ("list" : Str) → Q (.ref q) (upd H1 q (.lst (rgV a b)))) ∧ (h = ("tuple" : Str) → Q (.ref q) (upd H1 q (.tup (rgV a b))))) := fun σ H Q t => by
      obtain ⟨H0, ow0, ow, σd, s, S, w⟩ := t
      have w : Wp (rngE G Γ (f σd) h [a, b]) s _ _ := w
      unfold rngE at w
      rw [if_pos hg] at w
      unfold evs at w
      rw [if_pos na] at w
      unfold evs at w
      rw [if_pos nb] at w
      refine ⟨H0, ow0, ow, σd, s, S, w.of_bind.of_bind.mono (fun d s1 w1 v H1 e1 c1 pk => ⟨H0, ow0, ow, σd, s1, S.ext e1 c1, w1.of_bind.of_bind.mono (fun d2 s2 w2 v2 H2 e2 c2 pk2 => ?_) fun x s' hx cls od H' e' => hx cls od H' (e1.trans e')⟩) fun _ _ z => z⟩
      have w1 := w2.of_bind.of_pure.of_pure.of_pure.of_bind
      rw [iterC_rng] at w1
      cases d with
      | int n =>
        cases d2 with
        | int m =>
          obtain ⟨h62, w1⟩ := w1.of_guard
          obtain ⟨hl, w1⟩ := w1.of_pure.of_guard
          refine ⟨n, m, pk.int, pk2.int, ?_⟩
          exact rng_end S.hk rfl h62.1 h62.2 ((S.ext e1 c1).ext e2 c2).hk (e1.trans e2) hl w1.of_pure
        | _ => exact w1.of_fail.elim
      | _ => exact w1.of_fail.elim
    rcases hf with rfl | rfl
    · exact PE.imp (pe_listRg g.calm h1 h2 pr (starEach_ns rfl)) fun σ H Q t => by
        obtain ⟨H0, ow0, ow, σd, s, S, w⟩ := fin σ H Q t
        exact ⟨H0, ow0, ow, σd, s, S, w.mono (fun d s1 z v H1 e c pk => by
          obtain ⟨H0', ow0', ow', σd', s', S', z'⟩ := z v H1 e c pk
          exact ⟨H0', ow0', ow', σd', s', S', z'.mono (fun d2 s2 z v2 H2 e c2 pk2 => by
            obtain ⟨n, m, q1, q2, e2, e3⟩ := z v2 H2 e c2 pk2
            exact ⟨n, m, q1, q2, e2, fun q hq => (e3 q hq).1 rfl⟩) fun _ _ z => z⟩) fun _ _ z => z⟩
    · exact PE.imp (pe_tupRg g.calm h1 h2 pr (starEach_ns rfl)) fun σ H Q t => by
        obtain ⟨H0, ow0, ow, σd, s, S, w⟩ := fin σ H Q t
        exact ⟨H0, ow0, ow, σd, s, S, w.mono (fun d s1 z v H1 e c pk => by
          obtain ⟨H0', ow0', ow', σd', s', S', z'⟩ := z v H1 e c pk
          exact ⟨H0', ow0', ow', σd', s', S', z'.mono (fun d2 s2 z v2 H2 e c2 pk2 => by
            obtain ⟨n, m, q1, q2, e2, e3⟩ := z v2 H2 e c2 pk2
            exact ⟨n, m, q1, q2, e2, fun q hq => (e3 q hq).2 rfl⟩) fun _ _ z => z⟩) fun _ _ z => z⟩
end
end Py

set_option Elab.async false
set_option linter.all false
set_option maxRecDepth 100000
set_option maxHeartbeats 1000000
namespace Py
open PySem PySem.Spec PyProof.Rows L2
section
variable {U : Wd} {k : Nat} {Γ : Cxt} {X : Cx} {W : WX} {G : Gs} {ow : Ow} {H : Hp} {s : DS}
theorem freshE_isL {m : Nat} {e : Expr} {d : D} (h : freshE G m e d = true) : isL d = true := by
  unfold freshE at h
  rw [Bool.and_eq_true] at h
  exact h.2
theorem freshE_frF {m : Nat} {e : Expr} {d : D} (h : freshE G m e d = true) : frF G m e = true := by
  unfold freshE at h
  rw [Bool.and_eq_true] at h
  exact h.1
theorem pe_con {e : Expr} {c : V} {d : D} {fr : D → Bool} (h : PE X e (tC c)) (r : ∀ ow H, Rp U ow H d c) (hf : fr d = false) : PE X e (tOf U W (fun _ => pure d) fr) := PE.imp h fun σ H Q q => by
  obtain ⟨H0, ow0, ow, σd, s, S, w⟩ := q
  exact postV S.hk (show Wp (pure d) s _ _ from w).of_pure (r _ _) hf
theorem PT.failsT {e : Expr} {f : St → M Bool} (h : ∀ σ, f σ = fail) : PT X e (tOfT U W f) := ⟨fun pins s' σ H Q I q => by
  obtain ⟨H0, ow0, ow, σd, s, S, w⟩ := q
  rw [h] at w
  exact w.of_fail.elim⟩
theorem tst_fail {f : Expr → M D} {e : Expr} (h : f e = fail) : tst f e = fail := by
  unfold tst
  split
  · rw [h]; rfl
  · rfl
theorem tOfQ_pk {f : St → M D} {σ : L2.St} {Q : VK} (h : tOfQ U W (Pk U) f σ H Q) : tOfP U W f σ H Q := h
theorem tstL {e : Expr} {F : St → Expr → M D} {σ : L2.St} {H : Hp} {Q : Bool → Hp → Prop} (hn : noIf e = true) (f : St → M D) (he : ∀ σ, F σ e = f σ) (q : tOfT U W (fun σ => tst (F σ) e) σ H Q) : tOfL U W f σ H Q := by
  obtain ⟨H0, ow0, ow, σd, s, S, w⟩ := q
  obtain ⟨_, w⟩ := tst_wp (show Wp (tst (F σd) e) s _ _ from w)
  rw [he] at w
  exact ⟨H0, ow0, ow, σd, s, S, w⟩
theorem tOf.to {F f : St → M D} {fr : D → Bool} {σ : L2.St} {H : Hp} {Q : VK} (he : ∀ σ, F σ = f σ) (q : tOf U W F fr σ H Q) : tOf U W f fr σ H Q := by
  rw [← funext he]; exact q
theorem PE.to {e : Expr} {F f : St → M D} {fr : D → Bool} (he : ∀ σ, F σ = f σ) (q : PE X e (tOf U W f fr)) : PE X e (tOf U W F fr) := by
  rw [funext he]; exact q
/-- one layer of the interpreter -/
theorem snd_F (go : GlOk U k G) (gf : FnsOk U k G) {rec : Cxt → St → Expr → M D} (h : Snd U k G rec) : Snd U k G (evF G rec) := by
  intro Γ X W g e
  have hE' : ∀ {Γ X W}, Good U k Γ X W → ∀ e, PE X e (tOf U W (fun σ => rec Γ σ e) fun _ => false) := fun g e => PE.weak ((h _ _ _ g e).1 0) (fun d z => by cases z)
  have hE := fun e => hE' g e
  have hT := fun e => (h Γ X W g e).2
  have hP : ∀ e, PE X e (tOfP U W (fun σ => evP G Γ σ (rec Γ σ) e)) := fun e => pe_evP g go (hE e)
  have fin : ∀ (e : Expr) (fr : D → Bool), PE X e (tOf U W (fun σ => evF G rec Γ σ e) fr) → (∀ m d, freshE G m e d = true → fr d = true) → (∀ whole, isTrue e X.env whole = (do let v ← whole; standAt e.pos; holding [v] (truthy v))) →
      (∀ m, PE X e (tOf U W (fun σ => evF G rec Γ σ e) (freshE G m e))) ∧ PT X e (tOfT U W (fun σ => tst (evF G rec Γ σ) e)) :=
    fun e fr a b c => ⟨fun m => PE.weak a (b m), pt_val2 (f := evF G rec Γ) a c⟩
  have bad : ∀ e : Expr, (∀ σ, evF G rec Γ σ e = fail) → (∀ m, PE X e (tOf U W (fun σ => evF G rec Γ σ e) (freshE G m e))) ∧ PT X e (tOfT U W (fun σ => tst (evF G rec Γ σ) e)) :=
    fun e hf => ⟨fun m => PE.fails hf, PT.failsT fun σ => tst_fail (hf σ)⟩
  have nof : ∀ (m : Nat) (d : D) (e : Expr), (∀ n ds, freshE G (n + 1) e (.list ds) = false) → freshE G m e d = true → False := fun m d e hn z => by
    cases m with
    | zero => cases freshE_frF z
    | succ m =>
      have h1 := freshE_frF z
      have h2 := hn m []
      unfold freshE at h2
      rw [h1] at h2
      cases h2
  cases e with
  | Constant c j p =>
    cases c with
    | int i => exact fin _ (fun _ => false) (pe_con pe_int (fun _ _ => Rp.int) rfl) (fun m d z => (nof m d _ (fun _ _ => rfl) z).elim) fun _ => rfl
    | bool i => exact fin _ (fun _ => false) (pe_con pe_bl (fun _ _ => Rp.bool) rfl) (fun m d z => (nof m d _ (fun _ _ => rfl) z).elim) fun _ => rfl
    | none => exact fin _ (fun _ => false) (pe_con pe_non (fun _ _ => Rp.none) rfl) (fun m d z => (nof m d _ (fun _ _ => rfl) z).elim) fun _ => rfl
    | str i => exact fin _ (fun _ => false) (pe_con pe_str (fun _ _ => Rp.str) rfl) (fun m d z => (nof m d _ (fun _ _ => rfl) z).elim) fun _ => rfl
    | _ => exact bad _ fun _ => rfl
  | Name x p => exact fin _ (fun _ => false) ((pe_load g go).2 _ fun _ => rfl) (fun m d z => (nof m d _ (fun _ _ => rfl) z).elim) fun _ => rfl
  | BinOp a op b p => exact fin _ isL (pe_bin2 g (hP a) (hP b)) (fun m d z => freshE_isL z) fun _ => rfl
  | UnaryOp op a p =>
    cases op with
    | USub => exact fin _ (fun _ => false) (pe_neg2 g (hE a)) (fun m d z => (nof m d _ (fun _ _ => rfl) z).elim) fun _ => rfl
    | Not => exact ⟨fun m => PE.weak (pe_not2 (f := rec Γ) g (hE a)) (fun d z => (nof m d _ (fun _ _ => rfl) z).elim), pt_not2 g (f := rec Γ) (hT a) fun σ => rfl⟩
    | _ => exact bad _ fun _ => rfl
  | BoolOp op es p =>
    by_cases hes : es = []
    · subst hes
      cases op <;> exact bad _ fun _ => rfl
    · cases op with
      | And => exact ⟨fun m => PE.weak (pe_andL g (f := rec Γ) hE es hes) (fun d z => (nof m d _ (fun _ _ => rfl) z).elim), PT.imp (pw_andL g (f := rec Γ) hT es hes).pt fun σ H Q q => tstL rfl (fun σ => andL (rec Γ σ) es) (fun _ => rfl) q⟩
      | Or => exact ⟨fun m => PE.weak (pe_orL g (f := rec Γ) hE es hes) (fun d z => (nof m d _ (fun _ _ => rfl) z).elim), PT.imp (pw_orL g (f := rec Γ) hT es hes).pt fun σ H Q q => tstL rfl (fun σ => orL (rec Γ σ) es) (fun _ => rfl) q⟩
  | Compare a ops bs p =>
    match ops, bs with
    | [op], [b] =>
      by_cases hm : behindInMarks op b = false
      · have he : ∀ σ, evF G rec Γ σ (.Compare a [op] [b] p) = cmp1 (evP G Γ σ (rec Γ σ) a) (evP G Γ σ (rec Γ σ) b) op := fun σ => by show (if _ then _ else _) = _; rw [if_pos hm]
        have c := pc_1 g (hP a) (hP b) (op := op) (pos := p) hm
        refine ⟨fun m => PE.weak (fr := fun _ => false) (PE.imp c.1 fun σ H Q q => ?_) (fun d z => (nof m d _ (fun _ _ => rfl) z).elim), PT.imp c.2 fun σ H Q q => tstL rfl _ he q⟩
        exact tOf.to he q
      · exact bad _ fun σ => by show (if _ then _ else _) = _; rw [if_neg hm]
    | [op, op'], [b, c] =>
      by_cases hm : lastMarks [op, op'] [b, c] = false
      · have he : ∀ σ, evF G rec Γ σ (.Compare a [op, op'] [b, c] p) = cmp2 (evP G Γ σ (rec Γ σ) a) (evP G Γ σ (rec Γ σ) b) (evP G Γ σ (rec Γ σ) c) op op' := fun σ => by show (if _ then _ else _) = _; rw [if_pos hm]
        have c := pc_2 g (hP a) (hP b) (hP c) (op := op) (op' := op') (pos := p) hm
        refine ⟨fun m => PE.weak (fr := fun _ => false) (PE.imp c.1 fun σ H Q q => ?_) (fun d z => (nof m d _ (fun _ _ => rfl) z).elim), PT.imp c.2 fun σ H Q q => tstL rfl _ he q⟩
        exact tOf.to he q
      · exact bad _ fun σ => by show (if _ then _ else _) = _; rw [if_neg hm]
    | [], _ => exact bad _ fun _ => rfl
    | [_], [] => exact bad _ fun _ => rfl
    | [_], _ :: _ :: _ => exact bad _ fun _ => rfl
    | [_, _], [] => exact bad _ fun _ => rfl
    | [_, _], [_] => exact bad _ fun _ => rfl
    | [_, _], _ :: _ :: _ :: _ => exact bad _ fun _ => rfl
    | [op, op', op2], [b, c, d] =>
      by_cases hm : lastMarks [op, op', op2] [b, c, d] = false
      · have he : ∀ σ, evF G rec Γ σ (.Compare a [op, op', op2] [b, c, d] p) = cmp3 (evP G Γ σ (rec Γ σ) a) (evP G Γ σ (rec Γ σ) b) (evP G Γ σ (rec Γ σ) c) (evP G Γ σ (rec Γ σ) d) op op' op2 := fun σ => by show (if _ then _ else _) = _; rw [if_pos hm]
        have c := pc_3 g (hP a) (hP b) (hP c) (hP d) (op := op) (op' := op') (op2 := op2) (pos := p) hm
        refine ⟨fun m => PE.weak (fr := fun _ => false) (PE.imp c.1 fun σ H Q q => ?_) (fun d z => (nof m d _ (fun _ _ => rfl) z).elim), PT.imp c.2 fun σ H Q q => tstL rfl _ he q⟩
        exact tOf.to he q
      · exact bad _ fun σ => by show (if _ then _ else _) = _; rw [if_neg hm]
    | [_, _, _], [] => exact bad _ fun _ => rfl
    | [_, _, _], [_] => exact bad _ fun _ => rfl
    | [_, _, _], [_, _] => exact bad _ fun _ => rfl
    | [_, _, _], _ :: _ :: _ :: _ :: _ => exact bad _ fun _ => rfl
    | _ :: _ :: _ :: _ :: _, _ => exact bad _ fun _ => rfl
  | IfExp c a b p =>
    refine ⟨fun m => ?_, PT.failsT fun σ => rfl⟩
    cases m with
    | zero => exact PE.weak (pe_if2 (f := rec Γ) (fr := fun _ => false) g (hT c) (hE a) (hE b) (fun _ z => z) (fun _ z => z)) (fun d z => by cases freshE_frF z)
    | succ m =>
      have hh : ∀ d, freshE G (m + 1) (.IfExp c a b p) d = true → freshE G m a d = true ∧ freshE G m b d = true := fun d z => by
        have h1 := freshE_isL z
        have h2 : (frF G m a && frF G m b) = true := freshE_frF z
        rw [Bool.and_eq_true] at h2
        unfold freshE
        rw [h1, h2.1, h2.2]
        exact ⟨rfl, rfl⟩
      exact pe_if2 (f := rec Γ) g (hT c) ((h Γ X W g a).1 m) ((h Γ X W g b).1 m) (fun d z => (hh d z).1) fun d z => (hh d z).2
  | Tuple es j p => exact fin _ (fun _ => false) (pe_tup2 g (pa_evs (f := rec Γ) hE es)) (fun m d z => (nof m d _ (fun _ _ => rfl) z).elim) fun _ => rfl
  | List es p => exact fin _ isL (pe_lst2 g (pa_evs (f := rec Γ) hE es)) (fun m d z => freshE_isL z) fun _ => rfl
  | Dict ks vs p =>
    by_cases hc : ks.length ≤ 15 ∧ ks.all (·.isSome) = true ∧ ks.length = vs.length
    · exact fin _ isL (PE.to (fun σ => by show (if _ then _ else _) = _; rw [if_pos hc]) (pe_dict2 (f := rec Γ) g hE hc)) (fun m d z => freshE_isL z) fun _ => rfl
    · exact bad _ fun σ => by show (if _ then _ else _) = _; rw [if_neg hc]
  | Subscript a i p =>
    cases i with
    | Slice lo hi st p2 =>
      cases st with
      | none => exact fin _ isL (pe_sl2 g (hP a) (po_2 (f := fun σ => evP G Γ σ (rec Γ σ)) hP lo) (po_2 (f := fun σ => evP G Γ σ (rec Γ σ)) hP hi)) (fun m d z => freshE_isL z) fun _ => rfl
      | some st =>
        cases lo with
        | none =>
          cases hi with
          | none =>
            by_cases hm : isM1 st = true
            · refine fin _ isL (PE.to (fun σ => ?_) (pe_rev2 g (hP a) hm)) (fun m d z => freshE_isL z) fun _ => rfl
              show (if _ then _ else _) = _
              rw [if_pos hm]
            · exact bad _ fun σ => by show (if _ then _ else _) = _; rw [if_neg hm]
          | some hi => exact fin _ (fun _ => false) (pe_ix2 g (hP a) (hP _) fun _ _ => rfl) (fun m d z => (nof m d _ (fun _ _ => rfl) z).elim) fun _ => rfl
        | some lo => exact fin _ (fun _ => false) (pe_ix2 g (hP a) (hP _) fun _ _ => rfl) (fun m d z => (nof m d _ (fun _ _ => rfl) z).elim) fun _ => rfl
    | _ => exact fin _ (fun _ => false) (pe_ix2 g (hP a) (hP _) fun _ _ => rfl) (fun m d z => (nof m d _ (fun _ _ => rfl) z).elim) fun _ => rfl
  | ListComp elt gens sc p =>
    match gens with
    | [⟨tg, it, ifs, .negSucc _⟩] => exact bad _ fun _ => rfl
    | [⟨tg, it, ifs, .ofNat (_ + 1)⟩] => exact bad _ fun _ => rfl
    | [⟨tg, it, ifs, .ofNat 0⟩] =>
      by_cases hb : L2.blkC Γ.N Γ.sc sc (ownOf Γ.N tg) = true
      · have he : (fun σ => evF G rec Γ σ (.ListComp elt [⟨tg, it, ifs, 0⟩] sc p)) = (fun σ => do
          let items ← iterE G Γ (evP G Γ σ (rec Γ σ)) tg it
          let ys ← compB (rec ⟨Γ.N, L2.relS sc Γ.sc, sc⟩) ⟨Γ.N, L2.relS sc Γ.sc, sc⟩ (Py.wipe σ ((ownOf Γ.N tg).map (·.2))) tg ifs elt items
          if ys.length ≤ sline then pure (.list ys) else fail) := funext fun σ => by show (if _ then _ else _) = _; rw [if_pos hb]
        have pi := pi_iterE (tg := tg) (it := it) g go (srcE U) (f := fun σ => evP G Γ σ (rec Γ σ)) hP
        refine fin _ isL ?_ (fun m d z => freshE_isL z) fun _ => rfl
        show PE X _ (tOf U W (fun σ => evF G rec Γ σ (.ListComp elt [⟨tg, it, ifs, 0⟩] sc p)) isL)
        rw [he]
        rcases pi.2 with hs | hs
        · exact pe_comp g pi.1 hs hb (fun Y gY e => (h _ Y W0 gY e).2) (fun Y gY e => hE' gY e)
        · exact PE.fails fun σ => by rw [hs]; rfl
      · exact bad _ fun σ => by show (if _ then _ else _) = _; rw [if_neg hb]
    | [] => exact bad _ fun _ => rfl
    | [⟨tg, it, ifs, .ofNat 0⟩, ⟨tg1, it1, ifs1, .ofNat 0⟩] =>
      by_cases hb : L2.blkC Γ.N Γ.sc sc (own2 Γ.N tg tg1) = true ∧ isSet it1 = false
      · have he : (fun σ => evF G rec Γ σ (.ListComp elt [⟨tg, it, ifs, 0⟩, ⟨tg1, it1, ifs1, 0⟩] sc p)) = (fun σ => do
          let items ← iterE G Γ (evP G Γ σ (rec Γ σ)) tg it
          let ys ← compB2 G (rec ⟨Γ.N, L2.relS sc Γ.sc, sc⟩) ⟨Γ.N, L2.relS sc Γ.sc, sc⟩ (Py.wipe σ ((own2 Γ.N tg tg1).map (·.2))) tg ifs tg1 it1 ifs1 elt items
          if ys.length ≤ sline then pure (.list ys) else fail) := funext fun σ => by show (if _ then _ else _) = _; rw [if_pos hb]
        have pi := pi_iterE (tg := tg) (it := it) g go (srcE U) (f := fun σ => evP G Γ σ (rec Γ σ)) hP
        refine fin _ isL ?_ (fun m d z => freshE_isL z) fun _ => rfl
        show PE X _ (tOf U W (fun σ => evF G rec Γ σ (.ListComp elt [⟨tg, it, ifs, 0⟩, ⟨tg1, it1, ifs1, 0⟩] sc p)) isL)
        rw [he]
        rcases pi.2 with hs | hs
        · exact pe_comp2 g go pi.1 hs hb.1 hb.2 (fun Y gY e => (h _ Y W0 gY e).2) (fun Y gY e => hE' gY e)
        · exact PE.fails fun σ => by rw [hs]; rfl
      · exact bad _ fun σ => by show (if _ then _ else _) = _; rw [if_neg hb]
    | [⟨_, _, _, .ofNat 0⟩, ⟨_, _, _, .negSucc _⟩] => exact bad _ fun _ => rfl
    | [⟨_, _, _, .ofNat 0⟩, ⟨_, _, _, .ofNat (_ + 1)⟩] => exact bad _ fun _ => rfl
    | [⟨_, _, _, .negSucc _⟩, _] => exact bad _ fun _ => rfl
    | [⟨_, _, _, .ofNat (_ + 1)⟩, _] => exact bad _ fun _ => rfl
    | g1 :: g2 :: _ :: _ => exact bad _ fun _ => by rcases g1 with ⟨_, _, _, (_ | _) | _⟩ <;> rcases g2 with ⟨_, _, _, (_ | _) | _⟩ <;> rfl
  | Call fe args kws p =>
    cases fe with
    | Name f p' =>
      cases kws with
      | cons _ _ => exact bad _ fun _ => rfl
      | nil =>
        by_cases hc : okName f = true ∧ kindG Γ.sc f = true
        case neg => exact bad _ fun σ => by show (if _ then _ else _) = _; rw [if_neg hc]
        obtain ⟨k1, k3, k4⟩ := okName_d hc.1
        have hgl : L2.Gl X f := kindG_gl g hc.2
        cases hbare : G.bare f with
        | true =>
          obtain ⟨_, hmg, _, _⟩ := gname_ok g go hc.1 hc.2 hbare
          by_cases hi : f = ("isinstance" : Str)
          · subst hi
            have badI : ∀ σ, evF G rec Γ σ (.Call (.Name "isinstance" p') args [] p) = isiE G Γ (evP G Γ σ (rec Γ σ)) args := fun σ => by
              show (if _ then _ else _) = _
              rw [if_pos hc, if_pos hbare, if_pos rfl]
              all_goals rfl
            have nofI : ∀ (m : Nat) (d : D), freshE G m (.Call (.Name "isinstance" p') args [] p) d = true → (fun _ : D => false) d = true := fun m d z => by
              refine (nof m d _ (fun n ds => ?_) z).elim
              show ((if G.bare _ = true then _ else _) && true) = false
              rw [if_pos hbare]
              rfl
            cases args with
            | nil => exact bad _ badI
            | cons a as =>
            cases as with
            | nil => exact bad _ badI
            | cons b cs =>
            cases cs with
            | cons c ds =>
              exact bad _ fun σ => by
                rw [badI]
                cases b with
                | Tuple es j p4 =>
                  rcases es with (_ | ⟨x1, (_ | ⟨x2, (_ | ⟨x3, xr⟩)⟩)⟩)
                  all_goals first | rfl | (cases x1 <;> first | rfl | (cases x2 <;> rfl))
                | _ => rfl
            | nil =>
            cases b with
            | Name t p2 =>
              by_cases ht : gname G Γ t = true ∧ notStar a = true ∧ (isiT t).isSome = true
              · exact fin _ (fun _ => false) (PE.to (fun σ => by rw [badI]; exact if_pos ht) (pe_isi2 g go (hP a) ht.2.1 hgl hmg ht.1 ht.2.2)) nofI fun _ => rfl
              · exact bad _ fun σ => by rw [badI]; exact if_neg ht
            | Tuple es j p4 =>
              cases es with
              | nil => exact bad _ badI
              | cons x1 xs =>
              cases xs with
              | nil => exact bad _ fun σ => by rw [badI]; cases x1 <;> rfl
              | cons x2 xr =>
              cases xr with
              | cons x3 xr => exact bad _ fun σ => by rw [badI]; cases x1 <;> first | rfl | (cases x2 <;> rfl)
              | nil =>
              cases x1 with
              | Name t p2 =>
                cases x2 with
                | Name t2 p3 =>
                  by_cases ht : (gname G Γ t = true ∧ gname G Γ t2 = true) ∧ notStar a = true ∧ (isiT t).isSome = true ∧ (isiT t2).isSome = true
                  · exact fin _ (fun _ => false) (PE.to (fun σ => by rw [badI]; exact if_pos ht) (pe_isiT2 g go (hP a) ht.2.1 hgl hmg ht.1.1 ht.1.2 ht.2.2.1 ht.2.2.2)) nofI fun _ => rfl
                  · exact bad _ fun σ => by rw [badI]; exact if_neg ht
                | _ => exact bad _ badI
              | _ => exact bad _ badI
            | _ => exact bad _ badI
          · cases hrg : rngArg f args with
            | some rs =>
              refine fin _ (fun d => frB f && isL d) (PE.to (fun σ => ?_) (pe_lrg (f := fun σ => evP G Γ σ (rec Γ σ)) g go hP hrg hgl hmg)) (fun m d z => ?_) fun _ => rfl
              · show (if _ then _ else _) = _
                rw [if_pos hc, if_pos hbare, if_neg hi, hrg]
              · have hil := freshE_isL z
                cases m with
                | zero => cases freshE_frF z
                | succ m =>
                    have z : (if G.bare f = true then frB f else match G.fns f with
                      | some fg => fg.fr && !fg.fl
                      | none => false) = true := freshE_frF z
                    rw [if_pos hbare] at z
                    rw [Bool.and_eq_true]
                    exact ⟨z, hil⟩
            | none =>
            by_cases hb : biN f = true ∧ noStars args = true
            · refine fin _ (fun d => frB f && isL d) (PE.to (fun σ => ?_) (pe_bi2 g (pa_evsP (f := fun σ => evP G Γ σ (rec Γ σ)) hP args) hb.2 hgl hmg k1 k4 hb.1 fun z σ => by rw [z]; rfl)) (fun m d z => ?_) fun _ => rfl
              · show (if _ then _ else _) = _
                rw [if_pos hc, if_pos hbare, if_neg hi, hrg]
                exact if_pos hb
              · have hil := freshE_isL z
                cases m with
                | zero => cases freshE_frF z
                | succ m =>
                    have z : (if G.bare f = true then frB f else match G.fns f with
                      | some fg => fg.fr && !fg.fl
                      | none => false) = true := freshE_frF z
                    rw [if_pos hbare] at z
                    rw [Bool.and_eq_true]
                    exact ⟨z, hil⟩
            · exact bad _ fun σ => by
                show (if _ then _ else _) = _
                rw [if_pos hc, if_pos hbare, if_neg hi, hrg]
                exact if_neg hb
        | false =>
          have hbare' : ¬ G.bare f = true := by rw [hbare]; simp
          cases hf : G.fns f with
          | none =>
            exact bad _ fun σ => by
              show (if _ then _ else _) = _
              rw [if_pos hc, if_neg hbare', hf]
          | some fg =>
            by_cases hn : noStars args = true
            case neg =>
              exact bad _ fun σ => by
                show (if _ then _ else _) = _
                rw [if_pos hc, if_neg hbare', hf]
                show (if _ then _ else _) = _
                rw [if_neg hn]
            by_cases hl : fg.fl = true
            · refine fin _ (fun _ => false) (PE.to (fun σ => ?_) (pe_defP g gf hf hn hgl k1 (pa_evsP (f := fun σ => evP G Γ σ (rec Γ σ)) hP args) fun z σ => by rw [z]; rfl)) (fun m d z => ?_) fun _ => rfl
              · show (if _ then _ else _) = _
                rw [if_pos hc, if_neg hbare', hf]
                show (if _ then _ else _) = _
                rw [if_pos hn, if_pos hl]
              · refine (nof m d _ (fun n ds => ?_) z).elim
                show ((if G.bare _ = true then _ else _) && true) = false
                rw [if_neg hbare', hf]
                show ((fg.fr && !fg.fl) && true) = false
                rw [hl, Bool.and_true, Bool.and_comm]; rfl
            · refine fin _ (fun d => fg.fr && isL d) (PE.to (fun σ => ?_) (pe_defS g gf hf hn hgl k1 (pa_evs (f := rec Γ) hE args) fun z σ => by rw [z]; rfl)) (fun m d z => ?_) fun _ => rfl
              · show (if _ then _ else _) = _
                rw [if_pos hc, if_neg hbare', hf]
                show (if _ then _ else _) = _
                rw [if_pos hn, if_neg hl]
              · have hil := freshE_isL z
                cases m with
                | zero => cases freshE_frF z
                | succ m =>
                    have z : (if G.bare f = true then frB f else match G.fns f with
                      | some fg => fg.fr && !fg.fl
                      | none => false) = true := freshE_frF z
                    rw [if_neg hbare', hf] at z
                    have z : (fg.fr && !fg.fl) = true := z
                    rw [Bool.and_eq_true] at z ⊢
                    exact ⟨z.1, hil⟩
    | Attribute o m q =>
      cases kws with
      | cons _ _ => exact bad _ fun _ => by rcases args with (_ | ⟨_, (_ | ⟨_, _⟩)⟩) <;> rfl
      | nil =>
      cases args with
      | nil => exact bad _ fun _ => rfl
      | cons e as =>
      cases as with
      | cons _ _ => exact bad _ fun _ => rfl
      | nil =>
        by_cases hc : (q.endLine == p.line) = true ∧ notStar e = true ∧ plainO o = true ∧ methN m = true
        · exact fin _ (fun _ => false) (PE.to (fun σ => by show (if _ then _ else _) = _; rw [if_pos hc]) (pe_meth1 g (hP o) (hP e) hc.2.1 hc.2.2.1 hc.1 hc.2.2.2)) (fun m d z => (nof m d _ (fun _ _ => rfl) z).elim) fun _ => rfl
        · exact bad _ fun σ => by show (if _ then _ else _) = _; rw [if_neg hc]
    | Subscript o i q =>
      cases o with
      | List es q2 =>
        cases kws with
        | cons _ _ => exact bad _ fun _ => rfl
        | nil =>
          by_cases hpi : plainI i = true
          case neg => exact bad _ fun σ => by show (if _ then _ else _) = _; rw [if_neg hpi]
          cases hfs : fnNames es with
          | none =>
            exact bad _ fun σ => by
              show (if _ then callLs _ _ _ _ _ _ else _) = _
              rw [if_pos hpi]
              unfold callLs
              rw [hfs]
          | some fs =>
            by_cases hc : (fs.all (fnOk G Γ) = true ∧ fs.length ≤ 1000) ∧ noStars args = true ∧ args.isEmpty = false
            case neg =>
              exact bad _ fun σ => by
                show (if _ then callLs _ _ _ _ _ _ else _) = _
                rw [if_pos hpi]
                unfold callLs
                rw [hfs]
                dsimp only
                rw [if_neg hc]
            refine fin _ (fun _ => false) (PE.to (fun σ => ?_) (pe_callT g gf hfs hc.1.1 hc.1.2 hc.2.1 hc.2.2 (plainI_ok hpi) (hP i) (pa_evs (f := rec Γ) hE args))) (fun m d z => (nof m d _ (fun _ _ => rfl) z).elim) fun _ => rfl
            show (if _ then callLs _ _ _ _ _ _ else _) = _
            rw [if_pos hpi]
            unfold callLs
            rw [hfs]
            dsimp only
            rw [if_pos hc]
            all_goals rfl
      | _ => exact bad _ fun _ => by rcases kws with (_ | ⟨_, _⟩) <;> rfl
    | _ => exact bad _ fun _ => rfl
  | _ => exact bad _ fun _ => rfl
theorem snd_E (go : GlOk U k G) (gf : FnsOk U k G) : ∀ n, Snd U k G (evE G n)
  | 0 => fun Γ X W g e => ⟨fun m => PE.fails fun σ => rfl, PT.failsT fun σ => tst_fail rfl⟩
  | n + 1 => snd_F go gf (snd_E go gf n)
end
end Py

set_option Elab.async false
set_option linter.all false
set_option maxRecDepth 100000
set_option maxHeartbeats 1000000
namespace Py
open PySem PySem.Spec PyProof.Rows L2

/-- a list made since the entry -/
def FrR (U : Wd) (H0 : Hp) (ow : Ow) (H : Hp) (d : D) (v : V) : Prop := ∃ a u, v = .ref a ∧ H0 a = none ∧ H a = some u ∧ a ≠ U.cap ∧ Sh U (fun b => if b = a then some 0 else ow b) H d u
/-- what a flow promises -/
def PostF (U : Wd) (H0 : Hp) (ow0 : Ow) (Hk : Hp) (owk : Ow) (W : WX) (D : Ends) : Flow → DS → Prop
  | .nx σd, s => ∀ ow σ H, SR U H0 ow0 ow σ H σd s → Keep U owk ow Hk H → D.nx σ H
  | .brk σd, s => ∀ ow σ H, SR U H0 ow0 ow σ H σd s → Keep U owk ow Hk H → D.bk σ H
  | .ct σd, s => ∀ ow σ H, SR U H0 ow0 ow σ H σd s → Keep U owk ow Hk H → D.ct σ H
  | .ret d o, s => ∀ ow σ H σd v, SR U H0 ow0 ow σ H σd s → (o = false → Rp U ow H d v) → (o = true → FrR U H0 ow H d v) → D.rt v H
  | .rz x σd, s => ∀ ow σ H cls od, SR U H0 ow0 ow σ H σd s → XRep U H x cls od → W cls od σ H
def tOfS (U : Wd) (W : WX) (m : St → M Flow) : TS := fun D σ H => ∃ H0 ow0 Hk owk ow σd s, SR U H0 ow0 ow σ H σd s ∧ Keep U owk ow Hk H ∧ Wp (m σd) s (PostF U H0 ow0 Hk owk W D) fun _ _ => False
theorem Keep.trans {U : Wd} {a b c : Ow} {H H1 H2 : Hp} (h : Keep U a b H H1) (h' : Keep U b c H1 H2) : Keep U a c H H2 := fun x u hc ho e => by
  obtain ⟨e1, o1⟩ := h x u hc ho e
  exact h' x u hc o1 e1
theorem Keep.refl {U : Wd} {a : Ow} {H : Hp} : Keep U a a H H := fun _ _ _ ho e => ⟨e, ho⟩
/-- where one stands, in a def's body -/
structure GoodS (U : Wd) (k : Nat) (Γ : Cxt) (X : Cx) (W : WX) : Prop extends Good U k Γ X W where
  st : Γ.st = Γ.sc
  hp : PassesOwn (model X.prog X.w) X.A X.env X.xe
  stack : X.stack = X.env :: X.outer
  frame : X.env.frame = some X.env.locals
  fk : Γ.sc.kind = .function
section
variable {U : Wd} {k : Nat} {Γ : Cxt} {X : Cx} {W : WX} {G : Gs} {ow ow0 : Ow} {H H0 H1 : Hp} {s s1 : DS} {σ : L2.St} {σd : St} {D : Ends}
theorem PS.fails {e : Stmt} {m : St → M Flow} (h : ∀ σ, m σ = fail) : PS X e (tOfS U W m) := ⟨fun pins s σ H D I q => by
  obtain ⟨H0, ow0, Hk, owk, ow, σd, s, S, kk, w⟩ := q
  rw [h] at w
  exact w.of_fail.elim⟩
theorem PS.to {e : Stmt} {F f : St → M Flow} (he : ∀ σ, F σ = f σ) (q : PS X e (tOfS U W f)) : PS X e (tOfS U W F) := by
  rw [funext he]; exact q
/-- a slot given up -/
theorem SR.frz1 (S : SR U H0 ow0 ow σ H σd s) {i : Nat} {d : Py.D} {o : Bool} (h : σd[i]? = some (some (d, o))) : ∃ ow', SR U H0 ow0 ow' σ H (σd.set i (some (d, false))) s ∧ Keep U ow ow' H H := by
  obtain ⟨v, hv, h2, h3⟩ := S.slots i d o h
  have hi : i < σd.length := by
    by_cases z : i < σd.length
    · exact z
    · rw [List.getElem?_eq_none (by omega)] at h; cases h
  cases o with
  | false =>
    refine ⟨ow, ⟨S.trk, S.capo, S.cello, S.own0, S.agr, S.base, fun j e o' hj => ?_, S.cap, by rw [List.length_set]; exact S.len⟩, Keep.refl⟩
    by_cases hij : i = j
    · subst hij
      rw [List.getElem?_set_self hi] at hj
      cases hj
      exact ⟨v, hv, h2, fun z => nomatch z⟩
    · rw [List.getElem?_set_ne hij] at hj
      exact S.slots j e o' hj
  | true =>
    obtain ⟨a, u0, ev, ha, hoa, hc, r⟩ := h3 rfl
    have kp : Keep U ow (fun b => if b = a then none else ow b) H H := fun b u _ ho e => ⟨e, by
      show (if b = a then none else ow b) = none
      by_cases hb : b = a
      · rw [if_pos hb]
      · rw [if_neg hb]; exact ho⟩
    have le : ∀ b j, (if b = a then none else ow b) = some j → b ≠ a ∧ ow b = some j := fun b j z => by
      by_cases hb : b = a
      · rw [if_pos hb] at z; cases z
      · rw [if_neg hb] at z; exact ⟨hb, z⟩
    refine ⟨fun b => if b = a then none else ow b, ⟨fun b z => ?_, ?_, ?_, fun b j z => S.own0 b j (le b _ z).2, fun b u z => ?_, S.base, fun j e o' hj => ?_, S.cap, by rw [List.length_set]; exact S.len⟩, kp⟩
    · have z : (if b = a then none else ow b) ≠ none := z
      by_cases hb : b = a
      · rw [if_pos hb] at z; exact absurd rfl z
      · rw [if_neg hb] at z; exact S.trk b z
    · show (if U.cap = a then none else ow U.cap) = none
      rw [if_neg (fun z => hc z.symm)]; exact S.capo
    · show (if U.cell = a then none else ow U.cell) = none
      by_cases hb : U.cell = a
      · rw [if_pos hb]
      · rw [if_neg hb]; exact S.cello
    · show (if b = a then none else ow b) = ow0 b
      by_cases hb : b = a
      · subst hb
        rw [S.own0 b i hoa] at z; cases z
      · rw [if_neg hb]; exact S.agr b u z
    · by_cases hij : i = j
      · subst hij
        rw [List.getElem?_set_self hi] at hj
        cases hj
        refine ⟨v, hv, fun _ => ?_, fun z => nomatch z⟩
        rw [ev]
        rcases r with ⟨ds, xs, ed, eu, r⟩ | ⟨ds, xs, ed, eu, r⟩
        · subst ed eu
          unfold Rp
          exact ⟨a, xs, rfl, ⟨ha, by show (if a = a then none else ow a) = none; rw [if_pos rfl], hc⟩, RpL.mono kp _ _ r⟩
        · subst ed eu
          unfold Rp
          exact .inr ⟨a, xs, rfl, .inl ⟨ha, by show (if a = a then none else ow a) = none; rw [if_pos rfl], hc⟩, RpD.mono kp _ _ r⟩
      · rw [List.getElem?_set_ne hij] at hj
        obtain ⟨v', hv', k2, k3⟩ := S.slots j e o' hj
        refine ⟨v', hv', fun z => Rp.mono kp _ _ (k2 z), fun z => ?_⟩
        obtain ⟨a', u', e2, m1, m2, m3, m4⟩ := k3 z
        refine ⟨a', u', e2, m1, ?_, m3, Sh.mono kp m4⟩
        show (if a' = a then none else ow a') = some (j + 1)
        rw [if_neg (fun z => by subst z; rw [hoa] at m2; cases m2; exact hij rfl)]
        exact m2
theorem SR.frzI : ∀ (is : List Nat) {ow : Ow} {σd : St}, SR U H0 ow0 ow σ H σd s → ∃ ow', SR U H0 ow0 ow' σ H (Py.frz σd is) s ∧ Keep U ow ow' H H
  | [], ow, σd, S => ⟨ow, S, Keep.refl⟩
  | i :: is, ow, σd, S => by
    unfold Py.frz
    split
    · rename_i h
      obtain ⟨ow', S', k'⟩ := S.frz1 h
      obtain ⟨ow2, S2, k2⟩ := SR.frzI is S'
      exact ⟨ow2, S2, k'.trans k2⟩
    · exact SR.frzI is S
theorem SR.frz (xs : List Str) {ow : Ow} {σd : St} (S : SR U H0 ow0 ow σ H σd s) : ∃ ow', SR U H0 ow0 ow' σ H (freeze Γ σd xs) s ∧ Keep U ow ow' H H := SR.frzI _ S
/-- a new list stands in slot i and is its own -/
theorem SR.setOwn (S : SR U H0 ow0 ow σ H σd s) (e : Ext U H H1) (c : Cap U H1 s1) {i : Nat} {d : Py.D} {v : V} (rf : RF U ow H H1 d v) : ∃ ow', SR U H0 ow0 ow' (σ.set i (some v)) H1 (σd.set i (some (d, true))) s1 ∧ Keep U ow ow' H H1 := by
  obtain ⟨a, u0, ev, hn, ha, hc, r⟩ := rf
  have kp : Keep U ow (fun b => if b = a then some (i + 1) else ow b) H H1 := fun b u hb ho z => ⟨e b u hb z, by
    show (if b = a then some (i + 1) else ow b) = none
    rw [if_neg (ne_of_none z hn)]; exact ho⟩
  have h0 : H0 a = none := S.base.none hc hn
  refine ⟨fun b => if b = a then some (i + 1) else ow b, ⟨fun b z => ?_, ?_, ?_, fun b j z => ?_, fun b u z => ?_, S.base.trans e, fun j e' o' hj => ?_, c, by rw [List.length_set, List.length_set]; exact S.len⟩, kp⟩
  · have z : (if b = a then some (i + 1) else ow b) ≠ none := z
    by_cases hb : b = a
    · subst hb; exact ⟨_, ha, (r 0).notTup⟩
    · rw [if_neg hb] at z
      obtain ⟨u, hu, ht⟩ := S.trk b z
      exact ⟨u, e b u (fun q => by rw [q] at z; exact z S.capo) hu, ht⟩
  · show (if U.cap = a then some (i + 1) else ow U.cap) = none
    rw [if_neg (fun z => hc z.symm)]; exact S.capo
  · show (if U.cell = a then some (i + 1) else ow U.cell) = none
    rw [if_neg (ne_of_none S.cap.cells hn)]; exact S.cello
  · have z : (if b = a then some (i + 1) else ow b) = some (j + 1) := z
    by_cases hb : b = a
    · subst hb; exact h0
    · rw [if_neg hb] at z; exact S.own0 b j z
  · show (if b = a then some (i + 1) else ow b) = ow0 b
    rw [if_neg (ne_of_none z h0)]; exact S.agr b u z
  · by_cases hij : i = j
    · subst hij
      have hl : i < σd.length := by
        by_cases z : i < σd.length
        · exact z
        · rw [List.getElem?_eq_none (by rw [List.length_set]; omega)] at hj; cases hj
      rw [List.getElem?_set_self hl] at hj
      cases hj
      exact ⟨v, List.getElem?_set_self (by rw [← S.len]; exact hl), fun z => (nomatch z), fun _ => ⟨a, u0, ev, ha, by show (if a = a then some (i + 1) else ow a) = _; rw [if_pos rfl], hc, r (i + 1)⟩⟩
    · rw [List.getElem?_set_ne hij] at hj
      obtain ⟨v', hv', k2, k3⟩ := S.slots j e' o' hj
      refine ⟨v', by rw [List.getElem?_set_ne hij]; exact hv', fun z => Rp.mono kp _ _ (k2 z), fun z => ?_⟩
      obtain ⟨a', u', e2, m1, m2, m3, m4⟩ := k3 z
      refine ⟨a', u', e2, e a' _ m3 m1, ?_, m3, Sh.mono kp m4⟩
      show (if a' = a then some (i + 1) else ow a') = some (j + 1)
      rw [if_neg (ne_of_none m1 hn)]
      exact m2
/-- an own list, an own dict is changed -/
theorem SR.mutU (S : SR U H0 ow0 ow σ H σd s) {i : Nat} {d0 d' : Py.D} {a : Addr} {u' : HO} (hs : σd[i]? = some (some (d0, true))) (hv : σ[i]? = some (some (.ref a))) (ho : ow a = some (i + 1)) (hc : a ≠ U.cap) (r : Sh U ow H d' u') :
    SR U H0 ow0 ow σ (upd H a u') (σd.set i (some (d', true))) s ∧ Keep U ow ow H (upd H a u') := by
  have kp : Keep U ow ow H (upd H a u') := fun b u hb hob z => ⟨by rw [upd_ne (fun q => by subst q; rw [ho] at hob; cases hob)]; exact z, hob⟩
  have h0 : H0 a = none := S.own0 a i ho
  have hcell : U.cell ≠ a := fun z => by subst z; rw [S.cello] at ho; cases ho
  refine ⟨⟨fun b z => ?_, S.capo, S.cello, S.own0, S.agr, fun b u hb z => ?_, fun j e' o' hj => ?_, ⟨?_, ?_, S.cap.ne⟩, by rw [List.length_set]; exact S.len⟩, kp⟩
  · by_cases hb : b = a
    · subst hb; exact ⟨_, upd_same, r.notTup⟩
    · rw [upd_ne hb]; exact S.trk b z
  · rw [upd_ne (ne_of_none z h0)]; exact S.base b u hb z
  · by_cases hij : i = j
    · subst hij
      have hl : i < σd.length := by
        by_cases z : i < σd.length
        · exact z
        · rw [List.getElem?_eq_none (by omega)] at hs; cases hs
      rw [List.getElem?_set_self hl] at hj
      cases hj
      exact ⟨_, hv, fun z => (nomatch z), fun _ => ⟨a, u', rfl, upd_same, ho, hc, Sh.mono kp r⟩⟩
    · rw [List.getElem?_set_ne hij] at hj
      obtain ⟨v', hv', k2, k3⟩ := S.slots j e' o' hj
      refine ⟨v', hv', fun z => Rp.mono kp _ _ (k2 z), fun z => ?_⟩
      obtain ⟨a', u2, e2, m1, m2, m3, m4⟩ := k3 z
      exact ⟨a', u2, e2, by rw [upd_ne (fun q => by subst q; rw [ho] at m2; cases m2; exact hij rfl)]; exact m1, m2, m3, Sh.mono kp m4⟩
  · rw [upd_ne (fun z => hc z.symm)]; exact S.cap.row
  · rw [upd_ne hcell]; exact S.cap.cells
theorem SR.mut (S : SR U H0 ow0 ow σ H σd s) {i : Nat} {ds ds' : List Py.D} {a : Addr} {xs xs' : List V} (hs : σd[i]? = some (some (.list ds, true))) (hv : σ[i]? = some (some (.ref a))) (ha : H a = some (.lst xs)) (ho : ow a = some (i + 1)) (hc : a ≠ U.cap) (r : RpL U ow H ds' xs') :
    SR U H0 ow0 ow σ (upd H a (.lst xs')) (σd.set i (some (.list ds', true))) s ∧ Keep U ow ow H (upd H a (.lst xs')) := S.mutU hs hv ho hc (.inl ⟨ds', xs', rfl, rfl, r⟩)
/-- what a list that a name owns is -/
theorem ownL_ok {x : Str} {i : Nat} {ds : List Py.D} (h : ownL Γ σd x = some (i, ds)) : okName x = true ∧ slot Γ x = some i ∧ σd[i]? = some (some (.list ds, true)) := by
  unfold ownL at h
  split at h
  · rename_i hh
    split at h
    · rename_i j hj
      split at h
      · rename_i ds' hd
        cases h
        exact ⟨hh.1, hj, hd⟩
      · cases h
    · cases h
  · cases h
theorem SR.owned (S : SR U H0 ow0 ow σ H σd s) {i : Nat} {ds : List Py.D} (h : σd[i]? = some (some (.list ds, true))) : ∃ a xs, σ[i]? = some (some (.ref a)) ∧ H a = some (.lst xs) ∧ ow a = some (i + 1) ∧ a ≠ U.cap ∧ RpL U ow H ds xs := by
  obtain ⟨v, hv, _, h3⟩ := S.slots i _ _ h
  obtain ⟨a, u, ev, ha, ho, hc, r⟩ := h3 rfl
  obtain ⟨xs, eu, r2⟩ := r.list
  subst ev eu
  exact ⟨a, xs, hv, ha, ho, hc, r2⟩
theorem ownD_ok {x : Str} {i : Nat} {ds : List (Py.D × Py.D)} (h : ownD Γ σd x = some (i, ds)) : okName x = true ∧ slot Γ x = some i ∧ σd[i]? = some (some (.dict ds, true)) := by
  unfold ownD at h
  split at h
  · rename_i hh
    split at h
    · rename_i j hj
      split at h
      · rename_i ds' hd
        cases h
        exact ⟨hh.1, hj, hd⟩
      · cases h
    · cases h
  · cases h
theorem SR.ownedD (S : SR U H0 ow0 ow σ H σd s) {i : Nat} {ds : List (Py.D × Py.D)} (h : σd[i]? = some (some (.dict ds, true))) : ∃ a xs, σ[i]? = some (some (.ref a)) ∧ H a = some (.dK xs) ∧ ow a = some (i + 1) ∧ a ≠ U.cap ∧ RpD U ow H ds xs := by
  obtain ⟨v, hv, _, h3⟩ := S.slots i _ _ h
  obtain ⟨a, u, ev, ha, ho, hc, r⟩ := h3 rfl
  obtain ⟨xs, eu, r2⟩ := r.dict
  subst ev eu
  exact ⟨a, xs, hv, ha, ho, hc, r2⟩
/-- stE by what the parts promise -/
theorem Wp.of_stE {α : Type} {m : M α} {σ : St} {kk : α → M Flow} {Q : Flow → DS → Prop} (w : Wp (stE m σ kk) s Q fun _ _ => False) : Wp m s (fun a s' => Wp (kk a) s' Q fun _ _ => False) fun x s' => Q (.rz x σ) s' := by
  unfold Wp at w ⊢
  unfold stE at w
  cases e : m s with
  | ok a s' => rw [e] at w; exact w
  | exc x s' => rw [e] at w; exact w
  | fail => rw [e] at w; exact w
theorem rzX (S : SR U H0 ow0 ow σ H σd s) {Hk : Hp} {owk : Ow} {x : Exc} {s' : DS} (q : PostF U H0 ow0 Hk owk W D (.rz x σd) s') : PostX U W σ H x s' := fun cls od H' e c r => q ow σ H' cls od (S.ext e c) r
end
end Py

set_option Elab.async false
set_option linter.all false
set_option maxRecDepth 100000
set_option maxHeartbeats 1000000
namespace Py
open PySem PySem.Spec PyProof.Rows L2
section
variable {U : Wd} {k : Nat} {Γ : Cxt} {X : Cx} {W : WX} {G : Gs} {ow ow0 : Ow} {H H0 H1 : Hp} {s s1 : DS} {σ : L2.St} {σd : St} {D : Ends} {ev : Cxt → St → Expr → M Py.D}
theorem nx1_wp {o : Option St} {Q : Flow → DS → Prop} {E : Exc → DS → Prop} (w : Wp (nx1 o) s Q E) : ∃ σ', o = some σ' ∧ Q (.nx σ') s := by
  unfold nx1 lift at w
  cases o with
  | none => exact w.of_fail.elim
  | some σ' => exact ⟨σ', rfl, w.of_pure⟩
theorem setOk_ok {x : Str} (h : setOk Γ x = true) : okName x = true ∧ (Γ.st.names.lookup x = some .local ∨ Γ.st.names.lookup x = some .cell) ∧ ∃ i, Γ.N.idxOf? x = some i := by
  unfold setOk at h
  simp only [Bool.and_eq_true] at h
  refine ⟨h.1.1, ?_, Option.isSome_iff_exists.mp h.2⟩
  have h2 := h.1.2
  split at h2
  · rename_i e; exact .inl e
  · rename_i e; exact .inr e
  · cases h2
theorem setN_i {x : Str} {i : Nat} {d : Py.D} {o : Bool} {σ' : St} (hi : Γ.N.idxOf? x = some i) (h : setN Γ σd x d o = some σ') : σ' = σd.set i (some (d, o)) := by
  obtain ⟨j, _, _, hj, _, e⟩ := setN_ok h
  rw [hi] at hj; cases hj
  exact e
theorem asg_imp {x : Str} {e : Expr} {i : Nat} (hi : Γ.N.idxOf? x = some i) (hok : setOk Γ x = true) (h : tOfS U W (fun σ => stAsg G ev Γ σ x e) D σ H) :
    tOf U W (fun σ => ev Γ σ e) (freshE G 40 e) σ H (fun v H1 => D.nx (σ.set i (some v)) H1) := by
  obtain ⟨H0, ow0, Hk, owk, ow, σd, s, S, kk, w⟩ := h
  have w : Wp (stAsg G ev Γ σd x e) s _ _ := w
  unfold stAsg at w
  rw [if_pos hok] at w
  have w := w.of_stE
  obtain ⟨ow', S', k'⟩ := S.frz (esc G Γ.sc 40 e) (Γ := Γ)
  refine ⟨H0, ow0, ow', _, s, S', w.mono (fun d s' q v H' e' c r rf => ?_) (fun x s' q => rzX S' q)⟩
  obtain ⟨σ', hs, q⟩ := nx1_wp q
  have hs := setN_i hi hs
  subst hs
  cases hf : freshE G 40 e d with
  | false =>
    rw [hf] at q
    exact q _ _ _ ((S'.ext e' c).set r) (kk.trans (k'.trans e'.keep))
  | true =>
    rw [hf] at q
    obtain ⟨ow2, S2, k2⟩ := S'.setOwn e' c (i := i) (rf hf)
    exact q _ _ _ S2 (kk.trans (k'.trans k2))
theorem asg_bad {x : Str} {e : Expr} {p pos : Pos} (hok : setOk Γ x ≠ true) : PS X (.Assign [.Name x p] e pos) (tOfS U W (fun σ => stAsg G ev Γ σ x e)) := PS.fails fun σ => by
  unfold stAsg; rw [if_neg hok]
theorem stE_fail {α : Type} {σ : St} {kk : α → M Flow} : stE (fail : M α) σ kk = fail := rfl
theorem asg_fail {x : Str} {e : Expr} {p pos : Pos} (h : ∀ σ, ev Γ σ e = fail) : PS X (.Assign [.Name x p] e pos) (tOfS U W (fun σ => stAsg G ev Γ σ x e)) := PS.fails fun σ => by
  unfold stAsg
  split
  · rw [h]; rfl
  · rfl
/-- x = e, stored behind the value -/
theorem ps_asg1 (g : GoodS U k Γ X W) {x : Str} {e : Expr} {p pos : Pos} (he : PE X e (tOf U W (fun σ => ev Γ σ e) (freshE G 40 e))) (hs : swapsWith e (some (.Name x p)) pos.line X.env = pure false) :
    PS X (.Assign [.Name x p] e pos) (tOfS U W (fun σ => stAsg G ev Γ σ x e)) := by
  by_cases hok : setOk Γ x = true
  · obtain ⟨h1, h2, i, hi⟩ := setOk_ok hok
    obtain ⟨l1, l2⟩ := loc_ok g.toGood h2
    exact PS.imp (ps_set (i := i) (by rw [g.N]; exact g.nd) (by rw [g.N]; exact idxOf_get hi) l1 he hs l2) fun D σ H h => asg_imp hi hok h
  · exact asg_bad hok
/-- x = [.. for ..] -/
theorem ps_asgC (g : GoodS U k Γ X W) (go : GlOk U k G) (gf : FnsOk U k G) {x : Str} {p pos spos : Pos} {elt tg it : Expr} {ifs : List Expr} {sc : Scope} {n : Nat} :
    PS X (.Assign [.Name x p] (.ListComp elt [⟨tg, it, ifs, 0⟩] sc spos) pos) (tOfS U W (fun σ => stAsg G (evE G (n + 1)) Γ σ x (.ListComp elt [⟨tg, it, ifs, 0⟩] sc spos))) := by
  have h := snd_E go gf n
  have hE' : ∀ {Γ X W}, Good U k Γ X W → ∀ e, PE X e (tOf U W (fun σ => evE G n Γ σ e) fun _ => false) := fun g e => PE.weak ((h _ _ _ g e).1 0) (fun d z => by cases z)
  have hE := fun e => hE' g.toGood e
  have hP : ∀ e, PE X e (tOfP U W (fun σ => evP G Γ σ (evE G n Γ σ) e)) := fun e => pe_evP g.toGood go (hE e)
  by_cases hok : setOk Γ x = true
  case neg => exact asg_bad hok
  by_cases hb : L2.blkC Γ.N Γ.sc sc (ownOf Γ.N tg) = true
  case neg => exact asg_fail fun σ => by show (if _ then _ else _) = _; rw [if_neg hb]
  obtain ⟨h1, h2, i, hi⟩ := setOk_ok hok
  obtain ⟨l1, l2⟩ := loc_ok g.toGood h2
  have pi := pi_iterE (tg := tg) (it := it) g.toGood go (srcE U) (f := fun σ => evP G Γ σ (evE G n Γ σ)) hP
  rcases pi.2 with hsf | hsf
  case inr =>
    exact asg_fail fun σ => by
      show (if _ then _ else _) = _
      rw [if_pos hb, hsf]
      rfl
  by_cases hsw : (X.env.blockKind == .function && X.env.kindOf x == some .local && p.line == spos.line && !(sc.names.any fun (n, k) => n == x && (k == .local || k == .cell))) = true
  · have hyl : X.env.scope.names.lookup x = some .local := by
      simp only [Bool.and_eq_true] at hsw
      have : X.env.kindOf x = some .local := by simpa using hsw.1.1.2
      exact this
    have ok : BlkOk X.N X.env.scope sc (ownOf Γ.N tg) := by rw [g.N, g.sc]; exact blkOk_by hb
    refine PS.imp (ps_setLc (i := i) (g := gOf U ⟨Γ.N, L2.relS sc Γ.sc, sc⟩ tg ((ownOf Γ.N tg).map (·.2))) (tt := tOfT U W0 (fun σ => ifsE (evE G n ⟨Γ.N, L2.relS sc Γ.sc, sc⟩ σ) ifs)) (te := tOf U W0 (fun σ => evE G n ⟨Γ.N, L2.relS sc Γ.sc, sc⟩ σ elt) fun _ => false)
      g.calm (by rw [g.N]; exact g.nd) (by rw [g.N]; exact idxOf_get hi) hyl ?_ pi.1 ok
      (fun s H C cl fp => pg_I (good_blk g.toGood) tg) (fun s H C cl fp => pts_I (f := fun σ => evE G n ⟨Γ.N, L2.relS sc Γ.sc, sc⟩ σ) (fun e => (h _ _ W0 (good_blk g.toGood) e).2) ifs) (fun s H C cl fp => hE' (good_blk g.toGood) elt) hsf) fun D σ H q => ?_
    · show (pure _ : Sem Bool) = pure true
      exact congrArg pure hsw
    · refine comp_imp g.toGood ?_
      refine tOf.to (fun σ => ?_) (tOf.weak (fr' := isL) (fun d z => ?_) (asg_imp hi hok q))
      · show (if _ then _ else _) = _
        rw [if_pos hb]
      · exact z
  · refine ps_asg1 g ((snd_E go gf (n + 1) Γ X W g.toGood _).1 40) ?_
    show (pure _ : Sem Bool) = pure false
    exact congrArg pure (Bool.eq_false_iff.mpr hsw)
/-- x = [.. for .. for ..] -/
theorem ps_asgC2 (g : GoodS U k Γ X W) (go : GlOk U k G) (gf : FnsOk U k G) {x : Str} {p pos spos : Pos} {elt tg it tg1 it1 : Expr} {ifs ifs1 : List Expr} {sc : Scope} {n : Nat} :
    PS X (.Assign [.Name x p] (.ListComp elt [⟨tg, it, ifs, 0⟩, ⟨tg1, it1, ifs1, 0⟩] sc spos) pos) (tOfS U W (fun σ => stAsg G (evE G (n + 1)) Γ σ x (.ListComp elt [⟨tg, it, ifs, 0⟩, ⟨tg1, it1, ifs1, 0⟩] sc spos))) := by
  have h := snd_E go gf n
  have hE' : ∀ {Γ X W}, Good U k Γ X W → ∀ e, PE X e (tOf U W (fun σ => evE G n Γ σ e) fun _ => false) := fun g e => PE.weak ((h _ _ _ g e).1 0) (fun d z => by cases z)
  have hE := fun e => hE' g.toGood e
  have hP : ∀ e, PE X e (tOfP U W (fun σ => evP G Γ σ (evE G n Γ σ) e)) := fun e => pe_evP g.toGood go (hE e)
  by_cases hok : setOk Γ x = true
  case neg => exact asg_bad hok
  by_cases hb : L2.blkC Γ.N Γ.sc sc (own2 Γ.N tg tg1) = true ∧ isSet it1 = false
  case neg => exact asg_fail fun σ => by show (if _ then _ else _) = _; rw [if_neg hb]
  obtain ⟨h1, h2, i, hi⟩ := setOk_ok hok
  obtain ⟨l1, l2⟩ := loc_ok g.toGood h2
  have pi := pi_iterE (tg := tg) (it := it) g.toGood go (srcE U) (f := fun σ => evP G Γ σ (evE G n Γ σ)) hP
  rcases pi.2 with hsf | hsf
  case inr =>
    exact asg_fail fun σ => by
      show (if _ then _ else _) = _
      rw [if_pos hb, hsf]
      rfl
  by_cases hsw : (X.env.blockKind == .function && X.env.kindOf x == some .local && p.line == spos.line && !(sc.names.any fun (n, k) => n == x && (k == .local || k == .cell))) = true
  · have hyl : X.env.scope.names.lookup x = some .local := by
      simp only [Bool.and_eq_true] at hsw
      have : X.env.kindOf x = some .local := by simpa using hsw.1.1.2
      exact this
    have ok : BlkOk X.N X.env.scope sc (own2 Γ.N tg tg1) := by rw [g.N, g.sc]; exact blkOk_by hb.1
    have hq : ∀ (Y : Cx), Good U k ⟨Γ.N, L2.relS sc Γ.sc, sc⟩ Y W0 → ∀ e, PE Y e (tOfQ U W0 (Rp U) (fun σ => evE G n ⟨Γ.N, L2.relS sc Γ.sc, sc⟩ σ e)) := fun Y gY e => PE.imp (hE' gY e) fun σ H Q h => by
      obtain ⟨H0, ow0, ow, σd, s, S, w⟩ := h
      exact ⟨H0, ow0, ow, σd, s, S, w.mono (fun d s' q v H' e c r _ => q v H' e c r) fun _ _ h => h⟩
    refine PS.imp (ps_setLc2 (i := i) (g := gOf U ⟨Γ.N, L2.relS sc Γ.sc, sc⟩ tg ((ownOf Γ.N tg).map (·.2))) (tt := tOfT U W0 (fun σ => ifsE (evE G n ⟨Γ.N, L2.relS sc Γ.sc, sc⟩ σ) ifs)) (wi1 := tOfI U W0 (fun σ => iterE G ⟨Γ.N, L2.relS sc Γ.sc, sc⟩ (evE G n ⟨Γ.N, L2.relS sc Γ.sc, sc⟩ σ) tg1 it1) (RlK U)) (g1 := gOf U ⟨Γ.N, L2.relS sc Γ.sc, sc⟩ tg1 ((ownOf Γ.N tg1).map (·.2))) (tt1 := tOfT U W0 (fun σ => ifsE (evE G n ⟨Γ.N, L2.relS sc Γ.sc, sc⟩ σ) ifs1)) (te := tOf U W0 (fun σ => evE G n ⟨Γ.N, L2.relS sc Γ.sc, sc⟩ σ elt) fun _ => false)
      g.calm (by rw [g.N]; exact g.nd) (by rw [g.N]; exact idxOf_get hi) hyl ?_ pi.1 ok hv2
      (fun s H C cl fp => pg_I (good_blk g.toGood) tg) (fun s H C cl fp => pts_I (f := fun σ => evE G n ⟨Γ.N, L2.relS sc Γ.sc, sc⟩ σ) (fun e => (h _ _ W0 (good_blk g.toGood) e).2) ifs)
      (fun s H C cl fp => (pi_iterE (good_blk g.toGood) go (srcK U) (f := fun σ => evE G n ⟨Γ.N, L2.relS sc Γ.sc, sc⟩ σ) (hq _ (good_blk g.toGood))).1)
      (fun s H C cl fp => pg_I (good_blk g.toGood) tg1) (fun s H C cl fp => pts_I (f := fun σ => evE G n ⟨Γ.N, L2.relS sc Γ.sc, sc⟩ σ) (fun e => (h _ _ W0 (good_blk g.toGood) e).2) ifs1) (fun s H C cl fp => hE' (good_blk g.toGood) elt) hsf (fold2 hb.2)) fun D σ H q => ?_
    · show (pure _ : Sem Bool) = pure true
      exact congrArg pure hsw
    · refine comp2_imp g.toGood ?_
      refine tOf.to (fun σ => ?_) (tOf.weak (fr' := isL) (fun d z => ?_) (asg_imp hi hok q))
      · show (if _ then _ else _) = _
        rw [if_pos hb]
      · exact z
  · refine ps_asg1 g ((snd_E go gf (n + 1) Γ X W g.toGood _).1 40) ?_
    show (pure _ : Sem Bool) = pure false
    exact congrArg pure (Bool.eq_false_iff.mpr hsw)
theorem ps_asgA (g : GoodS U k Γ X W) (go : GlOk U k G) (gf : FnsOk U k G) {x : Str} {e : Expr} {p pos : Pos} {n : Nat} : PS X (.Assign [.Name x p] e pos) (tOfS U W (fun σ => stAsg G (evE G n) Γ σ x e)) := by
  cases n with
  | zero => exact asg_fail fun σ => rfl
  | succ n =>
    have he := (snd_E go gf (n + 1) Γ X W g.toGood e).1 40
    cases e with
    | ListComp elt gens sc spos =>
      match gens with
      | [⟨tg, it, ifs, .ofNat 0⟩] => exact ps_asgC g go gf
      | [] => exact asg_fail fun σ => rfl
      | [⟨tg, it, ifs, .negSucc _⟩] => exact asg_fail fun σ => rfl
      | [⟨tg, it, ifs, .ofNat (_ + 1)⟩] => exact asg_fail fun σ => rfl
      | [⟨tg, it, ifs, .ofNat 0⟩, ⟨tg1, it1, ifs1, .ofNat 0⟩] => exact ps_asgC2 g go gf
      | [⟨_, _, _, .ofNat 0⟩, ⟨_, _, _, .negSucc _⟩] => exact asg_fail fun _ => rfl
      | [⟨_, _, _, .ofNat 0⟩, ⟨_, _, _, .ofNat (_ + 1)⟩] => exact asg_fail fun _ => rfl
      | [⟨_, _, _, .negSucc _⟩, _] => exact asg_fail fun _ => rfl
      | [⟨_, _, _, .ofNat (_ + 1)⟩, _] => exact asg_fail fun _ => rfl
      | g1 :: g2 :: _ :: _ => exact asg_fail fun _ => by rcases g1 with ⟨_, _, _, (_ | _) | _⟩ <;> rcases g2 with ⟨_, _, _, (_ | _) | _⟩ <;> rfl
    | SetComp _ _ _ _ => exact asg_fail fun σ => rfl
    | DictComp _ _ _ _ _ => exact asg_fail fun σ => rfl
    | _ => exact ps_asg1 g he rfl
end
end Py

set_option Elab.async false
set_option linter.all false
set_option maxRecDepth 100000
set_option maxHeartbeats 1000000
namespace Py
open PySem PySem.Spec PyProof.Rows L2
section
variable {U : Wd} {k : Nat} {Γ : Cxt} {X : Cx} {W : WX} {G : Gs} {ow ow0 : Ow} {H H0 H1 : Hp} {s s1 : DS} {σ : L2.St} {σd : St} {D : Ends} {ev : Cxt → St → Expr → M Py.D}
theorem PS.failF {e : Stmt} {m : St → M Flow} (h : ∀ σ, m σ = fail) : PS X e (tOfS U W m) := PS.fails h
/-- target = e, names or a tuple of them -/
theorem ps_tup1 (g : GoodS U k Γ X W) {tg e : Expr} {pos : Pos} {fr : Py.D → Bool} (he : PE X e (tOf U W (fun σ => ev Γ σ e) fr)) (hs : swapsWithSole [tg] e pos.line X.env = pure false) (hw : swappedStores [tg] e X.env = pure none)
    (h1 : (assignEach [tg] X.env).map (·.2) = [assign tg X.env]) :
    PS X (.Assign [tg] e pos) (tOfS U W (fun σ => stTup G ev Γ σ tg e)) := by
  refine PS.imp (ps_asg he (pg_I g.toGood tg) hs hw h1) fun D σ H h => ?_
  obtain ⟨H0, ow0, Hk, owk, ow, σd, s, S, kk, w⟩ := h
  have w : Wp (stTup G ev Γ σd tg e) s _ _ := w
  unfold stTup at w
  have w := w.of_stE
  obtain ⟨ow', S', k'⟩ := S.frz (esc G Γ.sc 40 e) (Γ := Γ)
  refine ⟨H0, ow0, ow', _, s, S', w.mono (fun d s' q v H' e' c r rf => ?_) (fun x s' q => rzX S' q)⟩
  obtain ⟨σ', hb, q⟩ := nx1_wp q
  exact ⟨H0, ow0, ow', _, s', d, σ', S'.ext e' c, r, bindT_to hb, fun σ2 S2 _ => q _ _ _ S2 (kk.trans (k'.trans e'.keep))⟩
/-- the name of a list that it owns -/
theorem pv_own (g : Good U k Γ X W) {l : Str} {i : Nat} {p : Pos} (hok : okName l = true) (hs : slot Γ l = some i) : PE X (.Name l p) (tVar i) := by
  obtain ⟨hd, hcd, _⟩ := okName_d hok
  obtain ⟨hk, hN⟩ := slot_get hs
  exact pe_var (by rw [g.N]; exact hN) (by rw [g.sc]; exact kindL_vis hk) hd hcd
theorem ownL_none {l : Str} (h : ¬ (okName l = true ∧ (slot Γ l).isSome = true)) : ownL Γ σd l = none := by
  cases e : ownL Γ σd l with
  | none => rfl
  | some p =>
    obtain ⟨a, b, _⟩ := ownL_ok (i := p.1) (ds := p.2) e
    exact absurd ⟨a, by rw [b]; rfl⟩ h
def rSetA : TSet := fun o i v H Q => rSetL o i v H Q ∨ ∃ a H', o = .ref a ∧ DPut H a i v H' ∧ Q H'
theorem set_any (hu : X.A.units + 1 < cLine) : PSet X rSetA := by
  intro pins s σ H o i v ov iv u Q I ro ri rv h
  rcases h with h | ⟨a, H', eo, dp, q⟩
  · exact set_list pins s σ H o i v ov iv u Q I ro ri rv h
  · subst eo
    obtain rfl : ov = Value.ref a := ro
    exact d_setItem hu I dp ri rv fun s' I' => ⟨H', I', q⟩
/-- l[i] = e -/
theorem ps_sub1 (g : GoodS U k Γ X W) {l : Str} {i e : Expr} {p q pos : Pos} {fr fr' : Py.D → Bool} (he : PE X e (tOf U W (fun σ => ev Γ σ e) fr)) (hi : PE X i (tOf U W (fun σ => ev Γ σ i) fr'))
    (hs : swapsWithSole [.Subscript (.Name l p) i q] e pos.line X.env = pure false) (hw : swappedStores [.Subscript (.Name l p) i q] e X.env = pure none)
    (h1 : (assignEach [.Subscript (.Name l p) i q] X.env).map (·.2) = [assign (.Subscript (.Name l p) i q) X.env])
    (ha : ∀ v, assign (.Subscript (.Name l p) i q) X.env v = (do
      let ov ← holding [v] (eval (.Name l p) X.env)
      let iv ← holding [v, ov] (eval i X.env)
      standAt q
      holding [v, ov, iv] (setItem ov iv v)
      release [v, ov, iv] [])) :
    PS X (.Assign [.Subscript (.Name l p) i q] e pos) (tOfS U W (fun σ => stSub G ev Γ σ l i e)) := by
  by_cases hh : (okName l = true ∧ (slot Γ l).isSome = true) ∧ noSlice i = true
  case neg => exact PS.fails fun σ => by unfold stSub; dsimp only; rw [if_neg hh]
  have ⟨⟨hok, hsm⟩, _⟩ := hh
  obtain ⟨n, hsl⟩ := Option.isSome_iff_exists.mp hsm
  refine PS.imp (ps_asg he (pg_sub (pv_own g.toGood hok hsl) hi (set_any (by have := g.toGood.hu; omega)) ha) hs hw h1) fun D σ H h => ?_
  obtain ⟨H0, ow0, Hk, owk, ow, σd, s, S, kk, w⟩ := h
  have w : Wp (stSub G ev Γ σd l i e) s _ _ := w
  unfold stSub at w
  dsimp only at w
  rw [if_pos hh] at w
  have w := w.of_stE
  obtain ⟨ow', S', k'⟩ := S.frz (esc G Γ.sc 40 e) (Γ := Γ)
  refine ⟨H0, ow0, ow', _, s, S', w.mono (fun d s' q v H' e' c r rf => ?_) (fun x s' q => rzX S' q)⟩
  have S1 := S'.ext e' c
  cases hl : ownL Γ (freeze Γ σd (esc G Γ.sc 40 e)) l with
  | none =>
    rw [show fz G Γ σd e = freeze Γ σd (esc G Γ.sc 40 e) from rfl, hl] at q
    dsimp only at q
    cases hd : ownD Γ (freeze Γ σd (esc G Γ.sc 40 e)) l with
    | none =>
      rw [hd] at q
      exact q.of_fail.elim
    | some pr =>
      obtain ⟨j, kvs⟩ := pr
      rw [hd] at q
      obtain ⟨_, hj, hd⟩ := ownD_ok hd
      rw [hsl] at hj; cases hj
      obtain ⟨a, xs, hv, hla, hoa, hca, rl⟩ := S1.ownedD hd
      have q := Wp.of_stE q
      refine ⟨_, hv, H0, ow0, ow', _, s', S1, q.mono (fun dj s2 q2 vj H2 e2 c2 rj rfj => ?_) (fun x s' q => rzX S1 q)⟩
      have S2 := S1.ext e2 c2
      split at q2
      · rename_i kq hkk
        obtain ⟨hlt, q2⟩ := q2.of_guard
        have hla2 := e2 a _ hca hla
        have rl2 := rl.ext e2
        obtain ⟨S3, k3⟩ := S2.mutU hd hv hoa hca (.inr ⟨_, _, rfl, rfl, rl2.put hkk (r.ext e2)⟩)
        refine .inr ⟨a, _, rfl, ?_, q2.of_pure _ _ _ S3 (kk.trans (k'.trans (e'.keep.trans (e2.keep.trans k3))))⟩
        rw [keyV rj hkk]
        exact DPut.k hla2 (by rw [← rl.length, sizeLine_eq]; omega)
      · exact q2.of_fail.elim
  | some pr =>
    obtain ⟨j, ds⟩ := pr
    rw [show fz G Γ σd e = freeze Γ σd (esc G Γ.sc 40 e) from rfl, hl] at q
    obtain ⟨_, hj, hd⟩ := ownL_ok hl
    rw [hsl] at hj; cases hj
    obtain ⟨a, xs, hv, hla, hoa, hca, rl⟩ := S1.owned hd
    have q := Wp.of_stE q
    refine ⟨_, hv, H0, ow0, ow', _, s', S1, q.mono (fun dj s2 q2 vj H2 e2 c2 rj rfj => ?_) (fun x s' q => rzX S1 q)⟩
    have S2 := S1.ext e2 c2
    split at q2
    · split at q2
      · rename_i m hm
        unfold Rp at rj
        have hla2 := e2 a _ hca hla
        have rl2 := rl.ext e2
        obtain ⟨S3, k3⟩ := S2.mut hd hv hla2 hoa hca (rl2.set m (r.ext e2))
        exact .inl ⟨a, xs, _, m, rfl, rj, hla2, by rw [← rl.length]; exact hm, q2.of_pure _ _ _ S3 (kk.trans (k'.trans (e'.keep.trans (e2.keep.trans k3))))⟩
      · exact q2.of_fail.elim
    · exact q2.of_fail.elim
end
end Py

set_option Elab.async false
set_option linter.all false
set_option maxRecDepth 100000
set_option maxHeartbeats 1000000
namespace Py
open PySem PySem.Spec PyProof.Rows L2
section
variable {U : Wd} {k : Nat} {Γ : Cxt} {X : Cx} {W : WX} {G : Gs} {ow ow0 : Ow} {H H0 H1 : Hp} {s s1 : DS} {σ : L2.St} {σd : St} {D : Ends} {ev : Cxt → St → Expr → M Py.D}
theorem getLast_ix {α : Type} {xs : List α} {d : α} (h : xs.getLast? = some d) : xs[xs.length - 1]? = some d := by
  rw [← List.getLast?_eq_getElem?]; exact h
/-- l.append(e) -/
theorem ps_app1 (g : GoodS U k Γ X W) {l : Str} {e : Expr} {p q r pos : Pos} {fr : Py.D → Bool} (he : PE X e (tOf U W (fun σ => ev Γ σ e) fr)) :
    PS X (.Expr (.Call (.Attribute (.Name l p) "append" q) [e] [] r) pos) (tOfS U W (fun σ => stApp G ev Γ σ l q r e)) := by
  by_cases hq : (q.endLine == r.line) = true ∧ notStar e = true
  case neg => exact PS.fails fun σ => by unfold stApp; dsimp only; rw [if_neg hq]
  by_cases hh : okName l = true ∧ (slot Γ l).isSome = true
  case neg => exact PS.fails fun σ => by unfold stApp; dsimp only; rw [if_pos hq, ownL_none hh]
  have ⟨hok, hsm⟩ := hh
  obtain ⟨n, hsl⟩ := Option.isSome_iff_exists.mp hsm
  have hst := starEach_ns (env := X.env) (es := []) hq.2
  refine PS.imp (ps_expr (pe_bm PySem.F.plainAttrs_list PySem.F.slot_list_append PySem.F.type_list_append mt_append (pv_own g.toGood hok hsl) (pa_cons he pa_nil hst) rfl (by rw [hst]; rfl) hq.1 hst rfl) rfl) fun D σ H h => ?_
  obtain ⟨H0, ow0, Hk, owk, ow, σd, s, S, kk, w⟩ := h
  have w : Wp (stApp G ev Γ σd l q r e) s _ _ := w
  unfold stApp at w
  dsimp only at w
  rw [if_pos hq] at w
  obtain ⟨ow', S', k'⟩ := S.frz (esc G Γ.sc 40 e) (Γ := Γ)
  rw [show fz G Γ σd e = freeze Γ σd (esc G Γ.sc 40 e) from rfl] at w
  cases hl : ownL Γ (freeze Γ σd (esc G Γ.sc 40 e)) l with
  | none => rw [hl] at w; exact w.of_fail.elim
  | some pr =>
    obtain ⟨j, ds⟩ := pr
    rw [hl] at w
    obtain ⟨_, hj, hd⟩ := ownL_ok hl
    rw [hsl] at hj; cases hj
    obtain ⟨a, xs, hv, hla, hoa, hca, rl⟩ := S'.owned hd
    have w := Wp.of_stE w
    refine ⟨_, hv, .inl ⟨rfl, _, SqL.of_eq hla⟩, H0, ow0, ow', _, s, S', w.mono (fun d s2 q2 v H2 e2 c2 rv _ => ?_) (fun x s' q => rzX S' q)⟩
    obtain ⟨hlen, q2⟩ := q2.of_guard
    have S2 := S'.ext e2 c2
    have hla2 := e2 a _ hca hla
    obtain ⟨S3, k3⟩ := S2.mut hd hv hla2 hoa hca ((rl.ext e2).append (RpL.cons rv RpL.nil))
    exact ⟨a, xs, v, rfl, rfl, hla2, by rw [← rl.length]; exact hlen, q2.of_pure _ _ _ S3 (kk.trans (k'.trans (e2.keep.trans k3)))⟩
/-- l.extend(e) -/
theorem ps_ext1 (g : GoodS U k Γ X W) {l : Str} {e : Expr} {p q r pos : Pos} {fr : Py.D → Bool} (he : PE X e (tOf U W (fun σ => ev Γ σ e) fr)) :
    PS X (.Expr (.Call (.Attribute (.Name l p) "extend" q) [e] [] r) pos) (tOfS U W (fun σ => stExt G ev Γ σ l q r e)) := by
  by_cases hq : (q.endLine == r.line) = true ∧ notStar e = true
  case neg => exact PS.fails fun σ => by unfold stExt; dsimp only; rw [if_neg hq]
  by_cases hh : okName l = true ∧ (slot Γ l).isSome = true
  case neg => exact PS.fails fun σ => by unfold stExt; dsimp only; rw [if_pos hq, ownL_none hh]
  have ⟨hok, hsm⟩ := hh
  obtain ⟨n, hsl⟩ := Option.isSome_iff_exists.mp hsm
  have hst := starEach_ns (env := X.env) (es := []) hq.2
  refine PS.imp (ps_expr (pe_bm PySem.F.plainAttrs_list PySem.F.slot_list_extend PySem.F.type_list_extend mt_extend (pv_own g.toGood hok hsl) (pa_cons he pa_nil hst) rfl (by rw [hst]; rfl) hq.1 hst rfl) rfl) fun D σ H h => ?_
  obtain ⟨H0, ow0, Hk, owk, ow, σd, s, S, kk, w⟩ := h
  have w : Wp (stExt G ev Γ σd l q r e) s _ _ := w
  unfold stExt at w
  dsimp only at w
  rw [if_pos hq] at w
  obtain ⟨ow', S', k'⟩ := S.frz (esc G Γ.sc 40 e) (Γ := Γ)
  rw [show fz G Γ σd e = freeze Γ σd (esc G Γ.sc 40 e) from rfl] at w
  cases hl : ownL Γ (freeze Γ σd (esc G Γ.sc 40 e)) l with
  | none => rw [hl] at w; exact w.of_fail.elim
  | some pr =>
    obtain ⟨j, ds⟩ := pr
    rw [hl] at w
    obtain ⟨_, hj, hd⟩ := ownL_ok hl
    rw [hsl] at hj; cases hj
    obtain ⟨a, xs, hv, hla, hoa, hca, rl⟩ := S'.owned hd
    have w := Wp.of_stE w
    refine ⟨_, hv, .inl ⟨rfl, _, SqL.of_eq hla⟩, H0, ow0, ow', _, s, S', w.mono (fun d s2 q2 v H2 e2 c2 rv _ => ?_) (fun x s' q => rzX S' q)⟩
    cases d with
    | list es =>
      obtain ⟨hlen, q2⟩ := q2.of_guard
      unfold Rp at rv
      obtain ⟨b, zs, hb, nb, rz⟩ := rv
      subst hb
      have S2 := S'.ext e2 c2
      have hla2 := e2 a _ hca hla
      obtain ⟨S3, k3⟩ := S2.mut hd hv hla2 hoa hca ((rl.ext e2).append rz)
      exact ⟨a, b, xs, zs, rfl, rfl, hla2, nb.1, by rw [← rl.length, ← rz.length, ← sline_eq]; exact hlen, q2.of_pure _ _ _ S3 (kk.trans (k'.trans (e2.keep.trans k3)))⟩
    | _ => exact q2.of_fail.elim
/-- l.pop() -/
theorem ps_pop0 (g : GoodS U k Γ X W) {l : Str} {p q r pos : Pos} :
    PS X (.Expr (.Call (.Attribute (.Name l p) "pop" q) [] [] r) pos) (tOfS U W (fun σ => stPop0 Γ σ l q r)) := by
  by_cases hq : (q.endLine == r.line) = true
  case neg => exact PS.fails fun σ => by unfold stPop0; rw [if_neg hq]
  by_cases hh : okName l = true ∧ (slot Γ l).isSome = true
  case neg => exact PS.fails fun σ => by unfold stPop0; rw [if_pos hq, ownL_none hh]
  have ⟨hok, hsm⟩ := hh
  obtain ⟨n, hsl⟩ := Option.isSome_iff_exists.mp hsm
  refine PS.imp (ps_expr (pe_bm0 PySem.F.plainAttrs_list PySem.F.slot_list_pop PySem.F.type_list_pop mt_pop (pv_own g.toGood hok hsl) rfl hq) rfl) fun D σ H h => ?_
  obtain ⟨H0, ow0, Hk, owk, ow, σd, s, S, kk, w⟩ := h
  have w : Wp (stPop0 Γ σd l q r) s _ _ := w
  unfold stPop0 at w
  rw [if_pos hq] at w
  cases hl : ownL Γ σd l with
  | none => rw [hl] at w; exact w.of_fail.elim
  | some pr =>
    obtain ⟨j, ds⟩ := pr
    rw [hl] at w
    obtain ⟨_, hj, hd⟩ := ownL_ok hl
    rw [hsl] at hj; cases hj
    obtain ⟨a, xs, hv, hla, hoa, hca, rl⟩ := S.owned hd
    rcases w.of_ite with ⟨_, w⟩ | ⟨hz, w⟩
    · exact w.of_fail.elim
    have hlen := rl.length
    obtain ⟨y, hy⟩ : ∃ y, xs[xs.length - 1]? = some y := ⟨_, List.getElem?_eq_getElem (by omega)⟩
    obtain ⟨S3, k3⟩ := S.mut hd hv hla hoa hca rl.dropLast
    exact ⟨_, hv, .inl ⟨rfl, _, SqL.of_eq hla⟩, a, xs, y, rfl, rfl, hla, hy, w.of_pure _ _ _ S3 (kk.trans k3)⟩
/-- x = l.pop(..) -/
theorem ps_pop1 (g : GoodS U k Γ X W) {x l : Str} {p p' q r pos : Pos} {args : List Expr} (he : ∀ e, PE X e (tOf U W (fun σ => ev Γ σ e) fun _ => false)) :
    PS X (.Assign [.Name x p'] (.Call (.Attribute (.Name l p) "pop" q) args [] r) pos) (tOfS U W (fun σ => stPop ev Γ σ x l q r args)) := by
  by_cases hq : setOk Γ x = true ∧ (q.endLine == r.line) = true ∧ noStars args = true
  case neg => exact PS.fails fun σ => by unfold stPop; rw [if_neg hq]
  by_cases hh : okName l = true ∧ (slot Γ l).isSome = true
  case neg => exact PS.fails fun σ => by unfold stPop; rw [if_pos hq, ownL_none hh]
  have ⟨hok, hsm⟩ := hh
  obtain ⟨n, hsl⟩ := Option.isSome_iff_exists.mp hsm
  obtain ⟨h1, h2, i, hi⟩ := setOk_ok hq.1
  obtain ⟨l1, l2⟩ := loc_ok g.toGood h2
  cases args with
  | nil =>
    refine PS.imp (ps_set (i := i) (by rw [g.N]; exact g.nd) (by rw [g.N]; exact idxOf_get hi) l1 (pe_bm0 PySem.F.plainAttrs_list PySem.F.slot_list_pop PySem.F.type_list_pop mt_pop (pv_own g.toGood hok hsl) rfl hq.2.1) rfl l2) fun D σ H h => ?_
    obtain ⟨H0, ow0, Hk, owk, ow, σd, s, S, kk, w⟩ := h
    have w : Wp (stPop ev Γ σd x l q r []) s _ _ := w
    unfold stPop at w
    rw [if_pos hq] at w
    cases hl : ownL Γ σd l with
    | none => rw [hl] at w; exact w.of_fail.elim
    | some pr =>
      obtain ⟨j, ds⟩ := pr
      rw [hl] at w
      obtain ⟨_, hj, hd⟩ := ownL_ok hl
      rw [hsl] at hj; cases hj
      obtain ⟨a, xs, hv, hla, hoa, hca, rl⟩ := S.owned hd
      dsimp only at w
      cases hg : ds.getLast? with
      | none => rw [hg] at w; exact w.of_fail.elim
      | some d =>
        rw [hg] at w
        obtain ⟨σ', hs, w⟩ := nx1_wp w
        have hs := setN_i hi hs
        subst hs
        obtain ⟨y, hy, ry⟩ := rl.get (getLast_ix hg)
        rw [rl.length] at hy
        obtain ⟨S3, k3⟩ := S.mut hd hv hla hoa hca rl.dropLast
        exact ⟨_, hv, .inl ⟨rfl, _, SqL.of_eq hla⟩, a, xs, y, rfl, rfl, hla, hy, w _ _ _ (S3.set (Rp.mono k3 _ _ ry)) (kk.trans k3)⟩
  | cons e es =>
  cases es with
  | cons e2 es =>
    exact PS.fails fun σ => by
      unfold stPop
      rw [if_pos hq]
      cases ownL Γ σ l <;> rfl
  | nil =>
    have hns : notStar e = true := by have := hq.2.2; unfold noStars at this; simpa using this
    have hst := starEach_ns (env := X.env) (es := []) hns
    refine PS.imp (ps_set (i := i) (by rw [g.N]; exact g.nd) (by rw [g.N]; exact idxOf_get hi) l1 (pe_bm PySem.F.plainAttrs_list PySem.F.slot_list_pop PySem.F.type_list_pop mt_popAt (pv_own g.toGood hok hsl) (pa_cons (he e) pa_nil hst) rfl (by rw [hst]; rfl) hq.2.1 hst rfl) rfl l2) fun D σ H h => ?_
    obtain ⟨H0, ow0, Hk, owk, ow, σd, s, S, kk, w⟩ := h
    have w : Wp (stPop ev Γ σd x l q r [e]) s _ _ := w
    unfold stPop at w
    rw [if_pos hq] at w
    cases hl : ownL Γ σd l with
    | none => rw [hl] at w; exact w.of_fail.elim
    | some pr =>
      obtain ⟨j, ds⟩ := pr
      rw [hl] at w
      obtain ⟨_, hj, hd⟩ := ownL_ok hl
      rw [hsl] at hj; cases hj
      obtain ⟨a, xs, hv, hla, hoa, hca, rl⟩ := S.owned hd
      have w := Wp.of_stE w
      refine ⟨_, hv, .inl ⟨rfl, _, SqL.of_eq hla⟩, H0, ow0, ow, _, s, S, w.mono (fun dj s2 w2 vj H2 e2 c2 rj _ => ?_) (fun x s' q => rzX S q)⟩
      have S2 := S.ext e2 c2
      cases dj with
      | int jj =>
        dsimp only at w2
        cases hx : L2.ixN ds.length jj with
        | none => rw [hx] at w2; exact w2.of_fail.elim
        | some m =>
          rw [hx] at w2
          dsimp only at w2
          cases hg : ds[m]? with
          | none => rw [hg] at w2; exact w2.of_fail.elim
          | some d =>
            rw [hg] at w2
            obtain ⟨h62, w2⟩ := w2.of_guard
            obtain ⟨b1, b2⟩ := in62_ok h62
            obtain ⟨σ', hs, w2⟩ := nx1_wp w2
            have hs := setN_i hi hs
            subst hs
            have hla2 := e2 a _ hca hla
            have rl2 := rl.ext e2
            obtain ⟨y, hy, ry⟩ := rl2.get hg
            obtain ⟨S3, k3⟩ := S2.mut hd hv hla2 hoa hca (rl2.eraseIdx m)
            rw [rl.length] at hx
            unfold Rp at rj
            subst rj
            exact ⟨a, xs, jj, m, y, rfl, rfl, hla2, by omega, by omega, (ixN_seq hx).1, hy, w2 _ _ _ (S3.set (Rp.mono k3 _ _ ry)) (kk.trans (e2.keep.trans k3))⟩
      | _ => exact w2.of_fail.elim
/-- x op= e -/
theorem ip_mulW : PIp X .Mult (rI CMulW fun i j => .int (i * j)) := opI fun _ _ _ _ _ _ _ hc q => imul_int q hc.ok
def tAugQ (op : Operator) : TIp := fun x y H Q => ∃ i j c, x = .int i ∧ y = .int j ∧ augI op i j = some c ∧ Q (.int c) H
theorem ip_aug (op : Operator) : PIp X op (tAugQ op) := by
  intro pins s σ H x y v u Q I rx ry h
  obtain ⟨i, j, c, rfl, rfl, hc, q⟩ := h
  unfold augI at hc
  split at hc
  · cases hc; exact ip_add pins s σ H _ _ v u Q I rx ry ⟨i, j, rfl, rfl, q⟩
  · cases hc; exact ip_sub pins s σ H _ _ v u Q I rx ry ⟨i, j, rfl, rfl, q⟩
  · split at hc
    · rename_i hb
      cases hc; exact ip_mulW pins s σ H _ _ v u Q I rx ry ⟨i, j, rfl, rfl, hb, q⟩
    · cases hc
  · cases hc
theorem ps_aug1 (g : GoodS U k Γ X W) {x : Str} {e : Expr} {op : Operator} {p pos : Pos} {fr : Py.D → Bool} (he : PE X e (tOf U W (fun σ => ev Γ σ e) fr)) :
    PS X (.AugAssign (.Name x p) op e pos) (tOfS U W (fun σ => stAug ev Γ σ x op e)) := by
  by_cases hq : setOk Γ x = true
  case neg => exact PS.fails fun σ => by unfold stAug; rw [if_neg hq]
  obtain ⟨h1, h2, i, hi⟩ := setOk_ok hq
  obtain ⟨l1, l2⟩ := loc_ok g.toGood h2
  refine PS.imp (ps_aug (i := i) (by rw [g.N]; exact g.nd) (by rw [g.N]; exact idxOf_get hi) l1 he (ip_aug op) l2) fun D σ H h => ?_
  obtain ⟨H0, ow0, Hk, owk, ow, σd, s, S, kk, w⟩ := h
  have w : Wp (stAug ev Γ σd x op e) s _ _ := w
  unfold stAug at w
  rw [if_pos hq, hi] at w
  dsimp only at w
  split at w
  · rename_i a o hs
    obtain ⟨v, hv, r1, r2⟩ := S.slots i _ o hs
    have hvi : v = .int a := by
      cases o with
      | false => have := r1 rfl; unfold Rp at this; exact this
      | true =>
        cases (r2 rfl).soft
    subst hvi
    have w := Wp.of_stE w
    refine ⟨_, hv, H0, ow0, ow, _, s, S, w.mono (fun d s2 w2 v2 H2 e2 c2 r2 _ => ?_) (fun x s' q => rzX S q)⟩
    cases d with
    | int b =>
      dsimp only at w2
      cases hc : augI op a b with
      | none => rw [hc] at w2; exact w2.of_fail.elim
      | some c =>
        rw [hc] at w2
        obtain ⟨σ', hs', w2⟩ := nx1_wp w2
        have hs' := setN_i hi hs'
        subst hs'
        unfold Rp at r2
        exact ⟨a, b, c, rfl, r2, hc, w2 _ _ _ ((S.ext e2 c2).set Rp.int) (kk.trans e2.keep)⟩
    | _ => exact w2.of_fail.elim
  · exact w.of_fail.elim
/-- what stands at a place of a list, for an operator with a store -/
theorem pget_lst : PGet X (rIxL X.K) := by
  intro pins st sl Hh ob ik obv ikv QQ II r1 r2 hh
  obtain ⟨pp, ys, jj, zz, e1, e2, hsq, hat, fin⟩ := hh
  subst e1 e2
  cases r1
  obtain ⟨tk, rfl⟩ := r2
  obtain ⟨items, rv, isl, hsz⟩ := II.list hsq
  obtain ⟨m, s1, s2, s3, s4, s5⟩ := L2.atI_get hat
  obtain ⟨u, hu, ru⟩ := rv.get s2
  have hlen := rv.length
  have h63 := line63
  have good : EP X pins sl QQ u st := ⟨zz, Hh, II, ru, fin⟩
  by_cases hneg : jj < 0
  · have hm : (jj + (items.toArray.size : Int)).toNat = m := by
      rw [List.size_toArray, ← hlen]
      have z := s1
      rw [seqIndex_neg hneg s4] at z
      exact Option.some.inj z
    refine wpAny_getItem_list_neg isl.isList hneg ?_ ?_ ?_ good
    · rw [List.size_toArray]; omega
    · omega
    · rw [hm]; simpa using hu
  · have hm : jj.toNat = m := by
      have z := s1
      rw [seqIndex_of (by omega) s5] at z
      exact Option.some.inj z
    refine wpAny_getItem_list isl.isList (by omega) (by omega) ?_ good
    rw [hm]; simpa using hu
theorem ps_augS2 (g : GoodS U k Γ X W) {l : Str} {i e : Expr} {op : Operator} {p q pos : Pos} {fr fr' : Py.D → Bool} (he : PE X e (tOf U W (fun σ => ev Γ σ e) fr)) (hi : PE X i (tOf U W (fun σ => ev Γ σ i) fr'))
    (ha : ∀ ov iv new, augStore i ov iv new = (do holding [new, ov, iv] (setItem ov iv new); release [new, ov, iv] []; pure .next)) :
    PS X (.AugAssign (.Subscript (.Name l p) i q) op e pos) (tOfS U W (fun σ => stAugS ev Γ σ l i op e)) := by
  by_cases hh : (okName l = true ∧ (slot Γ l).isSome = true) ∧ noSlice i = true
  case neg => exact PS.fails fun σ => by unfold stAugS; rw [if_neg hh]
  have ⟨⟨hok, hsm⟩, _⟩ := hh
  obtain ⟨n, hsl⟩ := Option.isSome_iff_exists.mp hsm
  refine PS.imp (ps_augS (pv_own g.toGood hok hsl) hi pget_lst he (ip_aug op) set_list ha) fun D σ H h => ?_
  obtain ⟨H0, ow0, Hk, owk, ow, σd, s, S, kk, w⟩ := h
  have w : Wp (stAugS ev Γ σd l i op e) s _ _ := w
  unfold stAugS at w
  rw [if_pos hh] at w
  cases hl : ownL Γ σd l with
  | none => rw [hl] at w; exact w.of_fail.elim
  | some pr =>
    obtain ⟨j, ds⟩ := pr
    rw [hl] at w
    obtain ⟨_, hj, hd⟩ := ownL_ok hl
    rw [hsl] at hj; cases hj
    obtain ⟨a, xs, hv, hla, hoa, hca, rl⟩ := S.owned hd
    have w := Wp.of_stE w
    refine ⟨_, hv, H0, ow0, ow, _, s, S, w.mono (fun dj s2 w2 vj H2 e2 c2 rj _ => ?_) (fun x s' q => rzX S q)⟩
    have S2 := S.ext e2 c2
    have hla2 := e2 a _ hca hla
    have rl2 := rl.ext e2
    cases dj with
    | int jj =>
      dsimp only at w2
      unfold Rp at rj
      cases hix : L2.ixN ds.length jj with
      | none => rw [hix] at w2; exact w2.of_fail.elim
      | some m =>
        rw [hix] at w2
        dsimp only at w2
        split at w2
        · rename_i av hav
          obtain ⟨v0, hv0, rv0⟩ := rl2.get hav
          unfold Rp at rv0
          have hat : atI xs jj = some v0 := by
            unfold atI
            rw [← rl.length, hix]
            exact hv0
          have w2 := Wp.of_stE w2
          refine ⟨a, xs, jj, v0, rfl, rj, .inl (.inl hla2), hat, H0, ow0, ow, _, s2, S2, w2.mono (fun de s3 w3 ve H3 e3 c3 re _ => ?_) (fun x s' q => rzX S2 q)⟩
          have S3 := S2.ext e3 c3
          have hla3 := e3 a _ hca hla2
          have rl3 := rl2.ext e3
          cases de with
          | int b =>
            dsimp only at w3
            unfold Rp at re
            cases hc : augI op av b with
            | none => rw [hc] at w3; exact w3.of_fail.elim
            | some c =>
              rw [hc] at w3
              obtain ⟨S4, k4⟩ := S3.mut hd hv hla3 hoa hca (rl3.set m (Rp.int (b := c)))
              exact ⟨av, b, c, rv0, re, hc, a, xs, jj, m, rfl, rj, hla3, by rw [← rl.length]; exact hix, w3.of_pure _ _ _ S4 (kk.trans (e2.keep.trans (e3.keep.trans k4)))⟩
          | _ => exact w3.of_fail.elim
        · exact w2.of_fail.elim
    | _ => exact w2.of_fail.elim
end
end Py

set_option Elab.async false
set_option linter.all false
set_option maxRecDepth 100000
set_option maxHeartbeats 1000000
namespace Py
open PySem PySem.Spec PyProof.Rows L2
section
variable {U : Wd} {k : Nat} {Γ : Cxt} {X : Cx} {W : WX} {G : Gs} {ow ow0 : Ow} {H H0 H1 : Hp} {s s1 : DS} {σ : L2.St} {σd : St} {D : Ends} {ev : Cxt → St → Expr → M Py.D}
theorem isLocal_ok {sc : Scope} {x : Str} (h : isLocal sc x = true) : sc.names.lookup x = some .local := by
  unfold isLocal at h
  split at h
  · assumption
  · cases h
theorem noStar_any {vs : List Expr} (h : vs.all notStar = true) (f : Expr → Bool) (hf : ∀ e, notStar e = true → f e = false) : vs.any f = false := by
  induction vs with
  | nil => rfl
  | cons a as ih =>
    rw [List.all_cons, Bool.and_eq_true] at h
    rw [List.any_cons, ih h.2, hf a h.1]; rfl
theorem names_map {env : Env} {line : Nat} : ∀ {ts : List Expr} {xs : List Str}, namesOf ts = some xs → (∀ x ∈ xs, env.kindOf x = some .local) → (ts.all fun e => match e with
    | .Name _ q => q.line == line
    | _ => false) = true → ∀ f : Expr → Option Str, (∀ id pos, f (.Name id pos) = if env.kindOf id == some .local && pos.line == line then some id else none) → ts.filterMap f = xs
  | [], xs, h, _, _, f, _ => by cases h; rfl
  | e :: ts, xs, h, hk, hl, f, hf => by
    cases e with
    | Name x p =>
      unfold namesOf at h
      try dsimp only at h
      cases hn : namesOf ts with
      | none => rw [hn] at h; cases h
      | some ys =>
        rw [hn] at h
        cases h
        rw [List.all_cons, Bool.and_eq_true] at hl
        have h1 : (p.line == line) = true := hl.1
        have h2 := names_map hn (fun x hx => hk x (List.mem_cons_of_mem _ hx)) hl.2 f hf
        rw [List.filterMap_cons, hf, hk x List.mem_cons_self, h1]
        simp [h2]
    | _ => cases h
theorem sw_par {env : Env} {ts vs : List Expr} {xs : List Str} {pt pt2 : Pos} {kt k2 : Nat} (hk : env.scope.kind = .function) (hn : namesOf ts = some xs) (hx : ∀ x ∈ xs, env.scope.names.lookup x = some .local) (hl : oneLine ts = true)
    (h0 : (ts.length == 2 || ts.length == 3) = true) (h00 : (vs.length == ts.length) = true) (hd : (xs.eraseDups.length == xs.length) = true) (h1 : vs.all notStar = true) (h2 : vs.all (foldedForSure 8) = false) (h3 : vs.all (constantsAlone 8) = false) :
    swappedStores [.Tuple ts kt pt] (.Tuple vs k2 pt2) env = pure (some xs) := by
  have hb : env.blockKind = .function := by unfold Env.blockKind; rw [hk]; rfl
  have hlen : xs.length = ts.length := by
    have : ∀ {ts : List Expr} {xs : List Str}, namesOf ts = some xs → xs.length = ts.length := by
      intro ts
      induction ts with
      | nil => intro xs h; cases h; rfl
      | cons e ts ih =>
        intro xs h
        cases e with
        | Name x p =>
          unfold namesOf at h
          try dsimp only at h
          cases hn : namesOf ts with
          | none => rw [hn] at h; cases h
          | some ys =>
            rw [hn] at h
            cases h
            rw [List.length_cons, List.length_cons, ih hn]
        | _ => cases h
    exact this hn
  have hline : (ts.all fun e => match e with
    | .Name _ q => q.line == (ts.head?.map (·.pos.line)).getD 0
    | _ => false) = true := by
    unfold oneLine at hl
    split at hl
    · rename_i x p es
      rw [List.all_cons, Bool.and_eq_true]
      refine ⟨by show (p.line == p.line) = true; simp, hl⟩
    · cases hl
  have key := names_map hn (env := env) hx hline
  have b1 : (!(ts.length == 2 || ts.length == 3) || vs.length != ts.length || env.blockKind != ScopeKind.function) = false := by
    rw [h0, hb, bne, h00]; rfl
  have b2 : (xs.length != ts.length || xs.eraseDups.length != xs.length) = false := by
    rw [hlen, bne, bne, ← hlen, hd]; simp
  unfold swappedStores
  dsimp only
  rw [noStar_any h1 _ (by intro e h; cases e <;> first | rfl | cases h), key _ (fun _ _ => rfl), b1, b2, h2, h3]
  rfl
theorem names_short {env : Env} {line : Nat} {f : Expr → Option Str} (hf : ∀ id pos, f (.Name id pos) = if env.kindOf id == some .local && pos.line == line then some id else none) (hn : ∀ e, (∀ id pos, e ≠ .Name id pos) → f e = none) : ∀ ts : List Expr,
    (ts.all fun e => match e with
      | .Name x p => isLocal env.scope x && p.line == line
      | _ => false) = false → (ts.filterMap f).length < ts.length
  | [], h => by simp at h
  | e :: ts, h => by
    have hle : (ts.filterMap f).length ≤ ts.length := List.length_filterMap_le ..
    rw [List.all_cons, Bool.and_eq_false_iff] at h
    rw [List.filterMap_cons]
    rcases h with h | h
    · have : f e = none := by
        cases e with
        | Name x p =>
          rw [hf]
          have h : (isLocal env.scope x && p.line == line) = false := h
          have hk : (env.kindOf x == some .local) = isLocal env.scope x := by
            unfold isLocal Env.kindOf
            cases env.scope.names.lookup x with
            | none => rfl
            | some k => cases k <;> rfl
          rw [hk, h]
          rfl
        | _ => exact hn _ (by intro id pos z; cases z)
      rw [this]
      simp only [List.length_cons]
      omega
    · have ih := names_short hf hn ts h
      cases f e with
      | none => simp only [List.length_cons]; omega
      | some y => simp only [List.length_cons]; omega
theorem sw_off1 (g : GoodS U k Γ X W) {ts vs : List Expr} {pt pt2 : Pos} {kt k2 : Nat} (h : offPar1 Γ ts vs = true) : swappedStores [.Tuple ts kt pt] (.Tuple vs k2 pt2) X.env = pure none := by
  unfold offPar1 at h
  rw [Bool.and_eq_true, Bool.and_eq_true, Bool.and_eq_true] at h
  obtain ⟨⟨⟨h0, h00⟩, h1⟩, h2⟩ := h
  have h2 : (ts.all fun e => match e with
      | .Name x p => isLocal Γ.sc x && p.line == (ts.head?.map (·.pos.line)).getD 0
      | _ => false) = false := (Bool.not_eq_true' _).mp h2
  have hsk : X.env.scope.kind = .function := by rw [g.sc]; exact g.fk
  have hb : X.env.blockKind = .function := by unfold Env.blockKind; rw [hsk]; rfl
  have b1 : (!(ts.length == 2 || ts.length == 3) || vs.length != ts.length || X.env.blockKind != ScopeKind.function) = false := by
    rw [h0, hb, bne, h00]; rfl
  rw [← g.sc] at h2
  have hs := names_short (env := X.env) (line := (ts.head?.map (·.pos.line)).getD 0) (f := fun | .Name id pos => if X.env.kindOf id == some .local && pos.line == (ts.head?.map (·.pos.line)).getD 0 then some id else none | _ => none) (fun _ _ => rfl) (fun e he => by cases e <;> first | rfl | exact absurd rfl (he _ _)) ts h2
  unfold swappedStores
  dsimp only
  rw [noStar_any h1 _ (by intro e h; cases e <;> first | rfl | cases h), b1]
  have b2 : ((List.filterMap (fun | .Name id pos => if X.env.kindOf id == some .local && pos.line == (ts.head?.map (·.pos.line)).getD 0 then some id else none | _ => none) ts).length != ts.length) = true := by
    rw [bne_iff_ne]
    omega
  rw [if_neg (by simp), if_neg (by simp)]
  exact if_pos (by rw [Bool.or_eq_true]; exact .inl b2)
theorem sw_off (g : GoodS U k Γ X W) {ts vs : List Expr} {pt pt2 : Pos} {kt k2 : Nat} (h : offPar Γ ts vs = true) : swappedStores [.Tuple ts kt pt] (.Tuple vs k2 pt2) X.env = pure none := by
  unfold offPar at h
  rw [Bool.or_eq_true] at h
  rcases h with h | h
  · exact sw_off1 g h
  rw [Bool.and_eq_true, Bool.and_eq_true, Bool.and_eq_true] at h
  obtain ⟨⟨⟨h0, h00⟩, h1⟩, h2⟩ := h
  have hsk : X.env.scope.kind = .function := by rw [g.sc]; exact g.fk
  have hb : X.env.blockKind = .function := by unfold Env.blockKind; rw [hsk]; rfl
  have b1 : (!(ts.length == 2 || ts.length == 3) || vs.length != ts.length || X.env.blockKind != ScopeKind.function) = false := by
    rw [h0, hb, bne, h00]; rfl
  unfold swappedStores
  dsimp only
  rw [noStar_any h1 _ (by intro e h; cases e <;> first | rfl | cases h), b1]
  rw [if_neg (by simp), if_neg (by simp)]
  by_cases hn : (((ts.filterMap fun | .Name id pos => if X.env.kindOf id == some .local && pos.line == (ts.head?.map (·.pos.line)).getD 0 then some id else none | _ => none).length != ts.length) || ((ts.filterMap fun | .Name id pos => if X.env.kindOf id == some .local && pos.line == (ts.head?.map (·.pos.line)).getD 0 then some id else none | _ => none).eraseDups.length != (ts.filterMap fun | .Name id pos => if X.env.kindOf id == some .local && pos.line == (ts.head?.map (·.pos.line)).getD 0 then some id else none | _ => none).length)) = true
  · exact if_pos hn
  · refine (if_neg hn).trans ?_
    exact if_pos h2
theorem parOk_ok {ts vs : List Expr} {xs : List Str} (h : parOk Γ ts vs xs = true) : (ts.length == 2 || ts.length == 3) = true ∧ (vs.length == ts.length) = true ∧ oneLine ts = true ∧ (∀ x ∈ xs, Γ.sc.names.lookup x = some .local) ∧ (xs.eraseDups.length == xs.length) = true ∧ vs.all notStar = true ∧
    vs.all (foldedForSure 8) = false ∧ vs.all (constantsAlone 8) = false := by
  unfold parOk at h
  rw [Bool.and_eq_true, Bool.and_eq_true, Bool.and_eq_true, Bool.and_eq_true, Bool.and_eq_true, Bool.and_eq_true, Bool.and_eq_true] at h
  obtain ⟨⟨⟨⟨⟨⟨⟨h1, h2⟩, h3⟩, h4⟩, h5⟩, h6⟩, h7⟩, h8⟩ := h
  refine ⟨h1, h2, h3, fun x hx => isLocal_ok (List.all_eq_true.mp h4 x hx), h5, h6, ?_, ?_⟩
  · simpa using h7
  · simpa using h8
theorem dup2 {x y : Str} (h : ([x, y].eraseDups.length == [x, y].length) = true) : x ≠ y := fun z => by
  subst z
  have : ([x, x].eraseDups) = [x] := by simp [List.eraseDups_cons]
  rw [this] at h
  simp at h
theorem dup3 {x y z : Str} (h : ([x, y, z].eraseDups.length == [x, y, z].length) = true) : x ≠ y ∧ x ≠ z ∧ y ≠ z := by
  have key : ∀ a b c : Str, ([a, b, c].eraseDups.length = 3) → a ≠ b ∧ a ≠ c ∧ b ≠ c := by
    intro a b c hh
    simp only [List.eraseDups_cons] at hh
    refine ⟨fun z => ?_, fun z => ?_, fun z => ?_⟩
    · subst z
      by_cases hb : (c == a) = true <;> simp [List.filter_cons, hb, List.eraseDups_cons] at hh
    · subst z
      by_cases hb : (b == a) = true <;> simp [List.filter_cons, hb, List.eraseDups_cons] at hh
    · subst z
      by_cases hb : (b == a) = true <;> simp [List.filter_cons, hb, List.eraseDups_cons] at hh
  exact key x y z (by simpa using h)
theorem idx_ne {N : List Str} {x y : Str} {i j : Nat} (hi : N.idxOf? x = some i) (hj : N.idxOf? y = some j) (h : x ≠ y) : i ≠ j := fun z => by
  subst z
  have a := idxOf_get hi
  rw [idxOf_get hj] at a
  cases a
  exact h rfl
/-- the part that both share -/
theorem par_imp {ts vs : List Expr} {xs : List Str} (hn : namesOf ts = some xs) (hp : parOk Γ ts vs xs = true ∧ xs.all (setOk Γ) = true) (h : tOfS U W (fun σ => stPar G ev Γ σ ts vs) D σ H) :
    ∃ H0 ow0 Hk owk ow σd s, SR U H0 ow0 ow σ H σd s ∧ Keep U owk ow Hk H ∧ Wp (evs (ev Γ σd) vs) s (fun ds s' => Wp (nx1 (setPar (vs.map (frF G 40)) σd (idxL Γ xs) ds)) s' (PostF U H0 ow0 Hk owk W D) fun _ _ => False) (PostX U W σ H) := by
  obtain ⟨H0, ow0, Hk, owk, ow, σd, s, S, kk, w⟩ := h
  have w : Wp (stPar G ev Γ σd ts vs) s _ _ := w
  unfold stPar at w
  rw [hn] at w
  dsimp only at w
  rw [if_pos hp] at w
  obtain ⟨ow', S', k'⟩ := S.frz (vs.flatMap (esc G Γ.sc 40)) (Γ := Γ)
  exact ⟨H0, ow0, Hk, owk, ow', _, s, S', kk.trans k', (Wp.of_stE w).mono (fun _ _ h => h) fun x s' q => rzX S' q⟩
/-- the new address is owned, the slots stand as before -/
theorem SR.own1 (S : SR U H0 ow0 ow σ H σd s) (e : Ext U H H1) (c : Cap U H1 s1) (i : Nat) {d : Py.D} {v : V} (rf : RF U ow H H1 d v) : ∃ ow', SR U H0 ow0 ow' σ H1 σd s1 ∧ Own U (i + 1) ow' H1 d v ∧ Keep U ow ow' H H1 ∧ ∀ b u, H b = some u → ow' b = ow b := by
  obtain ⟨a, u0, ev, hn, ha, hc, r⟩ := rf
  have kp : Keep U ow (fun b => if b = a then some (i + 1) else ow b) H H1 := fun b u hb ho z => ⟨e b u hb z, by
    show (if b = a then some (i + 1) else ow b) = none
    rw [if_neg (ne_of_none z hn)]; exact ho⟩
  have h0 : H0 a = none := S.base.none hc hn
  refine ⟨fun b => if b = a then some (i + 1) else ow b, ⟨fun b z => ?_, ?_, ?_, fun b j z => ?_, fun b u z => ?_, S.base.trans e, fun j e' o' hj => ?_, c, S.len⟩, ⟨a, u0, ev, ha, by show (if a = a then some (i + 1) else ow a) = _; rw [if_pos rfl], hc, r (i + 1)⟩, kp, fun b u hb => if_neg (ne_of_none hb hn)⟩
  · have z : (if b = a then some (i + 1) else ow b) ≠ none := z
    by_cases hb : b = a
    · subst hb; exact ⟨_, ha, (r 0).notTup⟩
    · rw [if_neg hb] at z
      obtain ⟨u, hu, ht⟩ := S.trk b z
      exact ⟨u, e b u (fun q => by rw [q] at z; exact z S.capo) hu, ht⟩
  · show (if U.cap = a then some (i + 1) else ow U.cap) = none
    rw [if_neg (fun z => hc z.symm)]; exact S.capo
  · show (if U.cell = a then some (i + 1) else ow U.cell) = none
    rw [if_neg (ne_of_none S.cap.cells hn)]; exact S.cello
  · have z : (if b = a then some (i + 1) else ow b) = some (j + 1) := z
    by_cases hb : b = a
    · subst hb; exact h0
    · rw [if_neg hb] at z; exact S.own0 b j z
  · show (if b = a then some (i + 1) else ow b) = ow0 b
    rw [if_neg (ne_of_none z h0)]; exact S.agr b u z
  · obtain ⟨v', hv', k2, k3⟩ := S.slots j e' o' hj
    refine ⟨v', hv', fun z => Rp.mono kp _ _ (k2 z), fun z => ?_⟩
    obtain ⟨a', u', e2, m1, m2, m3, m4⟩ := k3 z
    refine ⟨a', u', e2, e a' _ m3 m1, ?_, m3, Sh.mono kp m4⟩
    show (if a' = a then some (i + 1) else ow a') = some (j + 1)
    rw [if_neg (ne_of_none m1 hn)]
    exact m2
theorem SR.setO (S : SR U H0 ow0 ow σ H σd s) {i : Nat} {d : Py.D} {v : V} (r : Own U (i + 1) ow H d v) : SR U H0 ow0 ow (σ.set i (some v)) H (σd.set i (some (d, true))) s := by
  refine ⟨S.trk, S.capo, S.cello, S.own0, S.agr, S.base, fun j e o h => ?_, S.cap, by rw [List.length_set, List.length_set]; exact S.len⟩
  by_cases hj : i = j
  · subst hj
    by_cases hi : i < σd.length
    · rw [List.getElem?_set_self hi] at h
      cases h
      exact ⟨v, by rw [List.getElem?_set_self (by rw [← S.len]; exact hi)], fun z => (by cases z), fun _ => r⟩
    · rw [List.getElem?_eq_none (by simpa using hi)] at h; cases h
  · rw [List.getElem?_set_ne hj] at h ⊢
    exact S.slots j e o h
theorem Own.mono {i : Nat} {ow ow' : Ow} {H H' : Hp} {d : Py.D} {v : V} (r : Own U i ow H d v) (e : Ext U H H') (k : Keep U ow ow' H H') (ho : ∀ a, ow a = some i → H a ≠ none → ow' a = some i) : Own U i ow' H' d v := by
  obtain ⟨a, u, e1, m1, m2, m3, m4⟩ := r
  exact ⟨a, u, e1, e a u m3 m1, ho a m2 (by rw [m1]; exact fun z => nomatch z), m3, Sh.mono k m4⟩
theorem evs2_wp {f : Expr → M Py.D} {a b : Expr} {s : DS} {Q : List Py.D → DS → Prop} {E : Exc → DS → Prop} (w : Wp (evs f [a, b]) s Q E) : Wp (f a) s (fun d s1 => Wp (f b) s1 (fun e s2 => Q [d, e] s2) E) E := by
  unfold evs at w
  obtain ⟨_, w⟩ := Wp.of_guard w
  refine w.of_bind.mono (fun d s1 w => ?_) fun _ _ h => h
  unfold evs at w
  have w := w.of_bind
  obtain ⟨_, w⟩ := Wp.of_guard w
  refine w.of_bind.mono (fun e s2 w => ?_) fun _ _ h => h
  exact ((show Wp (pure [] : M (List Py.D)) s2 _ _ from w.of_bind).of_pure).of_pure.of_pure
theorem ps_par1 (g : GoodS U k Γ X W) {ts vs : List Expr} {kt k2 : Nat} {pt pt2 pos : Pos} (he : ∀ e, PE X e (tOf U W (fun σ => ev Γ σ e) (freshE G 40 e))) :
    PS X (.Assign [.Tuple ts kt pt] (.Tuple vs k2 pt2) pos) (tOfS U W (fun σ => stPar G ev Γ σ ts vs)) := by
  cases hn : namesOf ts with
  | none => exact PS.fails fun σ => by unfold stPar; rw [hn]
  | some xs =>
    by_cases hp : parOk Γ ts vs xs = true ∧ xs.all (setOk Γ) = true
    case neg =>
      refine PS.fails fun σ => ?_
      unfold stPar
      rw [hn]
      dsimp only
      rw [if_neg hp]
    obtain ⟨p1, p2, p3, p4, p5, p6, p7, p8⟩ := parOk_ok hp.1
    have hsk : X.env.scope.kind = .function := by rw [g.sc]; exact g.fk
    have hloc : ∀ x ∈ xs, X.env.scope.names.lookup x = some .local := fun x hx => by rw [g.sc]; exact p4 x hx
    have hsw : swappedStores [.Tuple ts kt pt] (.Tuple vs k2 pt2) X.env = pure (some xs) := sw_par hsk hn hloc p3 p1 p2 p5 p6 p7 p8
    have hidx : ∀ x ∈ xs, ∃ i, Γ.N.idxOf? x = some i := fun x hx => (setOk_ok (List.all_eq_true.mp hp.2 x hx)).2.2
    have pa := pa_evs (X := X) (f := ev Γ) (fun e => PE.weak (he e) (fun d z => by cases z)) vs
    match ts, vs, hn, p1, p2 with
    | [.Name x px, .Name y py], [a, b], hn, _, _ =>
      cases hn
      obtain ⟨i, hi⟩ := hidx x (by simp)
      obtain ⟨j, hj⟩ := hidx y (by simp)
      have hpar := fun {t : TA} (pa : PA X [a, b] t) => ps_par (i := i) (j := j) (pt := pt) (pt2 := pt2) (kt := kt) (k2 := k2) (pos := pos) g.calm (by rw [g.N]; exact g.nd) (by rw [g.N]; exact idxOf_get hi) (by rw [g.N]; exact idxOf_get hj) (idx_ne hi hj (dup2 p5)) (hloc x (by simp)) (hloc y (by simp)) pa hsw rfl
      have hix : idxL Γ [x, y] = [i, j] := by simp [idxL, hi, hj]
      have nsa : notStar a = true := by
        have := List.all_eq_true.mp p6 a (by simp)
        exact this
      have nsb : notStar b = true := by
        have := List.all_eq_true.mp p6 b (by simp)
        exact this
      refine PS.imp (hpar (pa_cons (he a) (pa_cons (he b) pa_nil (starEach_ns nsb)) (starEach_ns nsa))) fun D σ H h => ?_
      obtain ⟨H0, ow0, Hk, owk, ow, σd, s, S, kk, w⟩ := par_imp (ts := [.Name x px, .Name y py]) rfl hp h
      have w := evs2_wp w
      refine ⟨H0, ow0, ow, σd, s, S, w.mono (fun d1 s1 w v H1 e c r rf => ?_) fun _ _ h => h⟩
      by_cases h1 : freshE G 40 a d1 = true
      · obtain ⟨ow1, S1, o1, k1, _⟩ := S.own1 e c i (rf h1)
        refine ⟨H0, ow0, ow1, σd, s1, S1, w.mono (fun d2 s2 q v2 H2 e2 c2 r2 rf2 => ?_) fun _ _ h => h.ext e⟩
        obtain ⟨σ', hs, q⟩ := nx1_wp q
        rw [hix] at hs
        have hs : some ((σd.set i (some (d1, freshE G 40 a d1))).set j (some (d2, freshE G 40 b d2))) = some σ' := hs
        refine ⟨v, v2, rfl, ?_⟩
        by_cases h2 : freshE G 40 b d2 = true
        · obtain ⟨ow2, S2, o2, k2, old⟩ := S1.own1 e2 c2 j (rf2 h2)
          rw [h1, h2] at hs
          cases hs
          obtain ⟨a1, u1, f1, f2, f3, f4, f5⟩ := o1
          have o3 : Own U (i + 1) ow2 H2 d1 v := by
            refine ⟨a1, u1, f1, e2 a1 u1 f4 f2, ?_, f4, Sh.mono k2 f5⟩
            rw [old a1 u1 f2]; exact f3
          exact q _ _ _ ((S2.setO o3).setO o2) ((kk.trans k1).trans k2)
        · rw [h1, Bool.eq_false_iff.mpr h2] at hs
          cases hs
          exact q _ _ _ (((S1.ext e2 c2).setO (o1.ext e2)).set r2) ((kk.trans k1).trans e2.keep)
      · refine ⟨H0, ow0, ow, σd, s1, S.ext e c, w.mono (fun d2 s2 q v2 H2 e2 c2 r2 rf2 => ?_) fun _ _ h => h.ext e⟩
        obtain ⟨σ', hs, q⟩ := nx1_wp q
        rw [hix] at hs
        have hs : some ((σd.set i (some (d1, freshE G 40 a d1))).set j (some (d2, freshE G 40 b d2))) = some σ' := hs
        refine ⟨v, v2, rfl, ?_⟩
        by_cases h2 : freshE G 40 b d2 = true
        · obtain ⟨ow2, S2, o2, k2, _⟩ := (S.ext e c).own1 e2 c2 j (rf2 h2)
          rw [Bool.eq_false_iff.mpr h1, h2] at hs
          cases hs
          exact q _ _ _ ((S2.set (Rp.mono k2 _ _ r)).setO o2) ((kk.trans e.keep).trans k2)
        · rw [Bool.eq_false_iff.mpr h1, Bool.eq_false_iff.mpr h2] at hs
          cases hs
          exact q _ _ _ ((((S.ext e c).ext e2 c2).set (r.ext e2)).set r2) ((kk.trans e.keep).trans e2.keep)
    | [.Name x px, .Name y py, .Name z pz], [a, b, cc], hn, _, _ =>
      cases hn
      obtain ⟨i, hi⟩ := hidx x (by simp)
      obtain ⟨j, hj⟩ := hidx y (by simp)
      obtain ⟨l, hl⟩ := hidx z (by simp)
      obtain ⟨n1, n2, n3⟩ := dup3 p5
      refine PS.imp (ps_par3 (i := i) (j := j) (l := l) g.calm (by rw [g.N]; exact g.nd) (by rw [g.N]; exact idxOf_get hi) (by rw [g.N]; exact idxOf_get hj) (by rw [g.N]; exact idxOf_get hl) (idx_ne hi hj n1) (idx_ne hi hl n2) (idx_ne hj hl n3)
        (hloc x (by simp)) (hloc y (by simp)) (hloc z (by simp)) pa hsw rfl) fun D σ H h => ?_
      obtain ⟨H0, ow0, Hk, owk, ow, σd, s, S, kk, w⟩ := par_imp (ts := [.Name x px, .Name y py, .Name z pz]) rfl hp h
      refine ⟨H0, ow0, ow, σd, s, S, (evs_wp w).mono (fun ds s' ⟨hl', q⟩ vs H' e' c r => ?_) fun _ _ h => h⟩
      match ds, hl' with
      | [d1, d2, d3], _ =>
        obtain ⟨σ', hs, q⟩ := nx1_wp q
        have hs : setPar ([a, b, cc].map (frF G 40)) σd (idxL Γ [x, y, z]) [d1, d2, d3] = some σ' := hs
        rw [show setPar ([a, b, cc].map (frF G 40)) σd (idxL Γ [x, y, z]) [d1, d2, d3] = setAll σd (idxL Γ [x, y, z]) [d1, d2, d3] from rfl] at hs
        rw [show idxL Γ [x, y, z] = [i, j, l] from by simp [idxL, hi, hj, hl]] at hs
        cases hs
        unfold RpL at r
        obtain ⟨v, vr, rfl, r1, r⟩ := r
        unfold RpL at r
        obtain ⟨v2, vr2, rfl, r2, r⟩ := r
        unfold RpL at r
        obtain ⟨v3, vr3, rfl, r3, r⟩ := r
        unfold RpL at r
        subst r
        exact ⟨v, v2, v3, rfl, q _ _ _ ((((S.ext e' c).set r1).set r2).set r3) (kk.trans e'.keep)⟩
end
end Py

set_option Elab.async false
set_option linter.all false
set_option maxRecDepth 100000
set_option maxHeartbeats 1000000
namespace Py
open PySem PySem.Spec PyProof.Rows L2
section
variable {U : Wd} {k : Nat} {Γ : Cxt} {X : Cx} {W : WX} {G : Gs} {ow ow0 : Ow} {H H0 H1 : Hp} {s s1 : DS} {σ : L2.St} {σd : St} {D : Ends} {ev : Cxt → St → Expr → M Py.D}
theorem ps_exp1 (g : GoodS U k Γ X W) {e : Expr} {pos : Pos} {fr : Py.D → Bool} (he : PE X e (tOf U W (fun σ => ev Γ σ e) fr)) : PS X (.Expr e pos) (tOfS U W (fun σ => stExp G ev Γ σ e)) := by
  by_cases hl : listComp e = true
  · exact PS.fails fun σ => by unfold stExp; rw [if_pos hl]
  · have hs : swapsWith e none pos.line X.env = pure false := by
      cases e <;> first | rfl | exact absurd rfl hl
    refine PS.imp (ps_expr he hs) fun D σ H h => ?_
    obtain ⟨H0, ow0, Hk, owk, ow, σd, s, S, kk, w⟩ := h
    have w : Wp (stExp G ev Γ σd e) s _ _ := w
    unfold stExp at w
    rw [if_neg hl] at w
    obtain ⟨ow', S', k'⟩ := S.frz (esc G Γ.sc 40 e) (Γ := Γ)
    exact ⟨H0, ow0, ow', _, s, S', (Wp.of_stE w).mono (fun d s' q v H' e' c r rf => q.of_pure _ _ _ (S'.ext e' c) (kk.trans (k'.trans e'.keep))) (fun x s' q => rzX S' q)⟩
theorem RF.fr {H' : Hp} {d : Py.D} {v : V} (h : RF U ow H H' d v) (b : Ext U H0 H) : FrR U H0 ow H' d v := by
  obtain ⟨a, u, e2, hn, ha, hc, r⟩ := h
  exact ⟨a, u, e2, b.none hc hn, ha, hc, r 0⟩
theorem SR.ownFr (S : SR U H0 ow0 ow σ H σd s) {i : Nat} {d : Py.D} {a : Addr} {u : HO} (ha : H a = some u) (ho : ow a = some (i + 1)) (hc : a ≠ U.cap) (r : Sh U ow H d u) : FrR U H0 ow H d (.ref a) :=
  ⟨a, u, rfl, S.own0 a i ho, ha, hc, Sh.mono (fun b u _ hob e => ⟨e, by
    show (if b = a then some 0 else ow b) = none
    rw [if_neg (fun z => by subst z; rw [ho] at hob; cases hob)]; exact hob⟩) r⟩
/-- return e -/
theorem ps_ret1 (g : GoodS U k Γ X W) {e : Expr} {pos : Pos} (he : PE X e (tOf U W (fun σ => ev Γ σ e) (freshE G 40 e))) : PS X (.Return (some e) pos) (tOfS U W (fun σ => stRet G ev Γ σ e)) := by
  refine PS.imp (ps_ret he) fun D σ H h => ?_
  obtain ⟨H0, ow0, Hk, owk, ow, σd, s, S, kk, w⟩ := h
  have w : Wp (stRet G ev Γ σd e) s _ _ := w
  unfold stRet at w
  obtain ⟨ow', S', k'⟩ := S.frz Γ.N (Γ := Γ)
  exact ⟨H0, ow0, ow', _, s, S', (Wp.of_stE w).mono (fun d s' q v H' e' c r rf => q.of_pure _ _ _ _ _ (S'.ext e' c) (fun _ => r) fun z => (rf z).fr S'.base) (fun x s' q => rzX S' q)⟩
theorem ps_retN1 (g : GoodS U k Γ X W) {x : Str} {p pos : Pos} (he : PE X (.Name x p) (tOf U W (fun σ => ev Γ σ (.Name x p)) fun _ => false)) : PS X (.Return (some (.Name x p)) pos) (tOfS U W (fun σ => stRetN ev Γ σ x p)) := by
  refine ⟨fun pins s' σ H D I h => ?_⟩
  obtain ⟨H0, ow0, Hk, owk, ow, σd, s, S, kk, w⟩ := h
  have w : Wp (stRetN ev Γ σd x p) s _ _ := w
  unfold stRetN at w
  cases hl : ownL Γ σd x with
  | none =>
    rw [hl] at w
    dsimp only at w
    cases hd : ownD Γ σd x with
    | some pr =>
      obtain ⟨j, kvs⟩ := pr
      rw [hd] at w
      obtain ⟨_, w⟩ := Wp.of_guard w
      obtain ⟨hok, hj, hd⟩ := ownD_ok hd
      obtain ⟨a, xs, hv, hla, hoa, hca, rl⟩ := S.ownedD hd
      exact (ps_ret (pv_own g.toGood hok hj)).run pins s' σ H D I ⟨_, hv, w.of_pure _ _ _ _ _ S (fun z => nomatch z) fun _ => S.ownFr hla hoa hca (.inr ⟨_, _, rfl, rfl, rl⟩)⟩
    | none =>
    rw [hd] at w
    exact (ps_ret he).run pins s' σ H D I ⟨H0, ow0, ow, σd, s, S, (Wp.of_stE w).mono (fun d s' q v H' e' c r rf => q.of_pure _ _ _ _ _ (S.ext e' c) (fun _ => r) fun z => nomatch z) (fun x s' q => rzX S q)⟩
  | some pr =>
    obtain ⟨j, ds⟩ := pr
    rw [hl] at w
    obtain ⟨hok, hj, hd⟩ := ownL_ok hl
    obtain ⟨a, xs, hv, hla, hoa, hca, rl⟩ := S.owned hd
    exact (ps_ret (pv_own g.toGood hok hj)).run pins s' σ H D I ⟨_, hv, w.of_pure _ _ _ _ _ S (fun z => nomatch z) fun _ => S.ownFr hla hoa hca (.inl ⟨_, _, rfl, rfl, rl⟩)⟩
/-- raise C(".") -/
theorem ps_raise1 (g : GoodS U k Γ X W) (go : GlOk U k G) {c m : Str} {p1 p2 p3 pos : Pos} {j : Nat} : PS X (.Raise (some (.Call (.Name c p1) [.Constant (.str m) j p2] [] p3)) none pos) (tOfS U W (fun σ => stRaise G Γ σ c m)) := by
  by_cases hc : okName c = true ∧ kindG Γ.sc c = true ∧ G.exc c = true
  case neg => exact PS.fails fun σ => by unfold stRaise; rw [if_neg hc]
  obtain ⟨C, hm, hk, _⟩ := go.exc c hc.2.2
  obtain ⟨hd, _, _⟩ := okName_d hc.1
  rcases hk with ⟨hi, bmB, B, newId, initId, F, q, kC, hr⟩ | ⟨hi, fI, T⟩
  · refine PS.imp (ps_raise g.calm g.tk (pmk_own (j := j) F (by rw [g.K]; exact q) (by rw [g.mg]; exact hm) (by rw [g.K]; exact kC) (hr X g.K) (kindG_gl g.toGood hc.2.1) hd)) fun D σ H h => ?_
    obtain ⟨H0, ow0, Hk, owk, ow, σd, s, S, kk, w⟩ := h
    have w : Wp (stRaise G Γ σd c m) s _ _ := w
    unfold stRaise at w
    rw [if_pos hc, hi, if_neg Bool.false_ne_true] at w
    exact w.of_pure _ _ _ _ _ S ⟨hm, .inl ⟨rfl, rfl⟩⟩
  · refine PS.imp (ps_raise g.calm g.tk (pmk_ref (C := C) (fI := fI) (k := k) (by rw [g.P, g.K]; exact T) (by rw [g.mg]; exact hm) g.room (pa_cons pe_str pa_nil) (kindG_gl g.toGood hc.2.1) hd)) fun D σ H h => ?_
    obtain ⟨H0, ow0, Hk, owk, ow, σd, s, S, kk, w⟩ := h
    have w : Wp (stRaise G Γ σd c m) s _ _ := w
    unfold stRaise at w
    rw [if_pos hc, hi, if_pos rfl] at w
    refine ⟨.str m, rfl, fun d nd => ?_⟩
    exact w.of_pure _ _ _ _ _ (S.ext (Ext.new nd) (S.cap.new nd)) ⟨hm, .inr ⟨m, d, rfl, rfl, upd_same⟩⟩
/-! ### what holds statements -/
/-- suites -/
def SndSs (U : Wd) (k : Nat) (Γ : Cxt) (ex : St → List Stmt → M Flow) : Prop := ∀ X W, GoodS U k Γ X W → ∀ sts, PSs X sts (tOfS U W (fun σ => ex σ sts))
theorem ps_if1 (g : GoodS U k Γ X W) {ex : St → List Stmt → M Flow} (hx : SndSs U k Γ ex) {c : Expr} {a b : List Stmt} {pos : Pos} (hc : PT X c (tOfT U W (fun σ => tst (ev Γ σ) c))) :
    PS X (.If c a b pos) (tOfS U W (fun σ => stE (tst (ev Γ σ) c) σ fun t => if t = true then ex σ a else ex σ b)) := by
  refine PS.imp (ps_if hc (hx X W g a) (hx X W g b)) fun D σ H h => ?_
  obtain ⟨H0, ow0, Hk, owk, ow, σd, s, S, kk, w⟩ := h
  refine ⟨H0, ow0, ow, σd, s, S, (Wp.of_stE w).mono (fun t s' q H' e' c => ?_) (fun x s' q => rzX S q)⟩
  cases t with
  | true => exact ⟨H0, ow0, Hk, owk, ow, σd, s', S.ext e' c, kk.trans e'.keep, q⟩
  | false => exact ⟨H0, ow0, Hk, owk, ow, σd, s', S.ext e' c, kk.trans e'.keep, q⟩
theorem ps_while1 (g : GoodS U k Γ X W) {ex : St → List Stmt → M Flow} (hx : SndSs U k Γ ex) {c : Expr} {body : List Stmt} {pos : Pos} {w0 : St → Nat} (hc : PT X c (tOfT U W (fun σ => tst (ev Γ σ) c))) :
    PS X (.While c body [] pos) (tOfS U W (fun σ => whileL (fun σ => tst (ev Γ σ) c) (fun σ => ex σ body) (w0 σ) σ)) := by
  refine PS.imp (ps_while g.hp hc (hx X W g body)) fun D σ H h => ?_
  obtain ⟨H0, ow0, Hk, owk, ow, σd, s, S, kk, w⟩ := h
  refine ⟨fun m σ H => ∃ ow σd s, SR U H0 ow0 ow σ H σd s ∧ Keep U owk ow Hk H ∧ Wp (whileL (fun σ => tst (ev Γ σ) c) (fun σ => ex σ body) m σd) s (PostF U H0 ow0 Hk owk W D) fun _ _ => False, ⟨w0 σd, ow, σd, s, S, kk, w⟩, ?_⟩
  rintro m σ H ⟨ow, σd, s, S, kk, w⟩
  cases m with
  | zero => exact w.of_fail.elim
  | succ m =>
    refine ⟨H0, ow0, ow, σd, s, S, (Wp.of_stE w).mono (fun t s' q H' e' c => ?_) (fun x s' q => rzX S q)⟩
    cases t with
    | false => exact (show Wp (pure (Flow.nx σd)) s' _ _ from q).of_pure _ _ _ (S.ext e' c) (kk.trans e'.keep)
    | true =>
      rw [if_pos rfl] at q ⊢
      refine ⟨_, fun σ' H' z => ⟨m, Nat.lt_succ_self m, z⟩, H0, ow0, Hk, owk, ow, σd, s', S.ext e' c, kk.trans e'.keep, q.of_bind.mono (fun fl s2 q2 => ?_) fun _ _ z => z⟩
      cases fl with
      | nx σ' => exact fun ow σ H S k => ⟨ow, σ', s2, S, k, q2⟩
      | ct σ' => exact fun ow σ H S k => ⟨ow, σ', s2, S, k, q2⟩
      | brk σ' => exact fun ow σ H S k => q2.of_pure ow σ H S k
      | ret d o => exact fun ow σ H σd v S k1 k2 => q2.of_pure ow σ H σd v S k1 k2
      | rz x σ' => exact fun ow σ H cls od S r => q2.of_pure ow σ H cls od S r
theorem ps_for1 (g : GoodS U k Γ X W) (go : GlOk U k G) {ex : St → List Stmt → M Flow} (hx : SndSs U k Γ ex) {tg it : Expr} {body : List Stmt} {pos : Pos} (he : ∀ e, PE X e (tOf U W (fun σ => ev Γ σ e) fun _ => false)) :
    PS X (.For tg it body [] pos) (tOfS U W (fun σ => stFor G ev ex Γ σ tg it body)) := by
  have hq : ∀ e, PE X e (tOfQ U W (Rp U) (fun σ => ev Γ σ e)) := fun e => PE.imp (he e) fun σ H Q ⟨H0, ow0, ow, σd, s, S, w⟩ => ⟨H0, ow0, ow, σd, s, S, w.mono (fun d s' q v H' e c r _ => q v H' e c r) fun _ _ h => h⟩
  have pi := pi_iterE (tg := tg) (it := it) g.toGood go (srcK U) (f := fun σ => ev Γ σ) hq
  rcases pi.2 with hsf | hsf
  case inr =>
    exact PS.fails fun σ => by
      unfold stFor
      dsimp only
      rw [hsf]; rfl
  refine PS.imp (ps_for g.hp g.calm pi.1 (pg_I g.toGood tg) (hx X W g body) hsf) fun D σ H h => ?_
  obtain ⟨H0, ow0, Hk, owk, ow, σd, s, S, kk, w⟩ := h
  have w : Wp (stFor G ev ex Γ σd tg it body) s _ _ := w
  unfold stFor at w
  dsimp only at w
  obtain ⟨ow1, S1, k1⟩ := S.frz (esc G Γ.sc 40 it) (Γ := Γ)
  obtain ⟨ow2, S2, k2⟩ := S1.frz (iterNames it) (Γ := Γ)
  refine ⟨H0, ow0, ow2, _, s, S2, (Wp.of_stE w).mono (fun items s' q J H1 e1 c1 ito => ?_) (fun x s' q => rzX S2 q)⟩
  have kk1 := kk.trans (k1.trans (k2.trans e1.keep))
  refine ⟨fun i m σ H => m = items.length - i ∧ i ≤ items.length ∧ ∃ ow' σd' si, SR U H0 ow0 ow' σ H σd' si ∧ Keep U ow2 ow' H1 H ∧ Wp (forL (fun σ d => bindT Γ σ tg d) (fun σ => ex σ body) (items.drop i) σd') si (PostF U H0 ow0 Hk owk W D) fun _ _ => False,
    ⟨items.length, by simp, Nat.zero_le _, ow2, _, s', S2.ext e1 c1, Keep.refl, by rw [List.drop_zero]; exact q⟩, ?_⟩
  rintro i m σ H ⟨rfl, hi, ow', σd', si, S', k', w'⟩
  obtain ⟨hgo, hstop⟩ := ito ow' H si k' S'.hk
  by_cases hlt : i < items.length
  · have hxi : items[i]? = some items[i] := List.getElem?_eq_getElem hlt
    obtain ⟨go', hy⟩ := hgo i _ hxi
    have hdr : items.drop i = items[i] :: items.drop (i + 1) := List.drop_eq_getElem_cons hlt
    rw [hdr] at w'
    unfold forL at w'
    cases hb : bindT Γ σd' tg items[i] with
    | none => rw [hb] at w'; exact w'.of_fail.elim
    | some σ2d =>
      rw [hb] at w'
      refine .inr ⟨go', _, fun σ' H' z => ⟨items.length - (i + 1), by omega, rfl, hlt, z⟩, fun x H3 yl => ?_⟩
      obtain ⟨e3, c3, rx⟩ := hy x H3 yl
      have S3 := S'.ext e3 c3
      refine ⟨H0, ow0, ow', _, si, items[i], σ2d, S3, rx, bindT_to hb, fun σ2 S4 _ => ?_⟩
      refine ⟨H0, ow0, H1, ow2, ow', σ2d, si, S4, k'.trans e3.keep, w'.of_bind.mono (fun fl s2 q2 => ?_) fun _ _ z => z⟩
      cases fl with
      | nx σ' => exact fun ow σ H S k => ⟨ow, σ', s2, S, k, q2⟩
      | ct σ' => exact fun ow σ H S k => ⟨ow, σ', s2, S, k, q2⟩
      | brk σ' => exact fun ow σ H S k => q2.of_pure ow σ H S (kk1.trans k)
      | ret d o => exact fun ow σ H σd v S k1 k2 => q2.of_pure ow σ H σd v S k1 k2
      | rz x σ' => exact fun ow σ H cls od S r => q2.of_pure ow σ H cls od S r
  · have hi2 : i = items.length := by omega
    subst hi2
    rw [List.drop_length] at w'
    exact .inl ⟨hstop, (show Wp (pure (Flow.nx σd')) si _ _ from w').of_pure _ _ _ S' (kk1.trans k')⟩
/-- try: .. except C [as n]: return a value -/
def scV : Py.D → Option V
  | .int i => some (.int i)
  | .str i => some (.str i)
  | .bool i => some (.bl i)
  | .none => some .non
  | _ => none
theorem scV_rp {d : Py.D} {v : V} (h : scV d = some v) : Rp U ow H d v := by
  cases d <;> first | (cases h; first | exact Rp.int | exact Rp.str | exact Rp.bool | exact Rp.none) | cases h
/-- the clause's value, where the error x is at a -/
def tHx (Γ : Cxt) (on : Option Str) (a : Addr) (x : Exc) (od : Option Addr) (v : V) : TE := fun σ H Q => ((∀ n, on = some n → ∃ i, Γ.N.idxOf? n = some i ∧ σ[i]? = some (some (.ref a))) ∧ XFl H x.flds od) ∧ Q v H
theorem XFl.dok {H : Hp} {fs : List (Str × Py.D)} {od : Option Addr} (h : XFl H fs od) : DOk H od := by
  rcases h with ⟨_, h⟩ | ⟨m, a, _, h, e⟩
  · exact .inl h
  · exact .inr ⟨a, _, h, e⟩
theorem PE.none_ {X : Cx} {e : Expr} : PE X e (fun _ _ _ => False) := ⟨fun _ _ _ _ _ _ h => h.elim⟩
theorem hexp_pe (g : GoodS U k Γ X W) (go : GlOk U k G) {on : Option Str} {x : Exc} {a : Addr} {oe : Obj} {pn : List (Addr × Obj)} {cls : Value} {od : Option Addr} (hx : U.mg x.cls = some cls) (hxe : G.exc x.cls = true) (hz : Zc cls od oe) (hf : ∃ vs, oe.data = .fields vs) (hon : onOk Γ on = true) :
    ∀ (m : Nat) (e : Expr) (d : Py.D) (v : V), hexp G Γ on x m e = some d → scV d = some v → PE (X.suite a ((a, oe) :: pn)) e (tHx Γ on a x od v)
  | 0, _, _, _, h, _ => by cases h
  | m + 1, e, d, v, h, hv => by
    unfold hexp at h
    split at h
    · rename_i h2; cases h2
    · cases h; cases hv; exact PE.imp pe_int fun σ H Q q => q.2
    · cases h; cases hv; exact PE.imp pe_str fun σ H Q q => q.2
    · cases h; cases hv; exact PE.imp pe_bl fun σ H Q q => q.2
    · cases h; cases hv; exact PE.imp pe_non fun σ H Q q => q.2
    · split at h
      · rename_i n pn0 F pF0 pC hm hc
        obtain ⟨rfl, h1, h2, ⟨h3, h4⟩, h5⟩ := hc
        cases hs : G.sub x.cls F with
        | none => rw [hs] at h; cases h
        | some b =>
          rw [hs] at h
          cases h
          cases hv
          obtain ⟨C, cv, vc, hC, EC, hF, rv, ru, hk⟩ := go.sub x.cls F b hs
          rw [hx] at hC
          cases hC
          unfold gname at h1
          simp only [Bool.and_eq_true] at h1
          obtain ⟨k1, k2, k3, k4⟩ := gname_ok g.toGood go h1.1.1 h1.1.2 h1.2
          obtain ⟨d1, d2, d3⟩ := okName_d h4
          obtain ⟨e1, e2, e3⟩ := okName_d h3
          have gF : Gl X F := kindG_gl g.toGood h5
          have pF : PE (X.suite a ((a, oe) :: pn)) (.Name F pF0) (tC vc) := by
            rcases hF with hF | ⟨hF, hb⟩
            · exact pe_glob (X := X.suite a ((a, oe) :: pn)) gF (by show X.mg F = _; rw [g.mg]; exact hF) rv d1
            · exact pe_bltn (X := X.suite a ((a, oe) :: pn)) gF (by show X.mg F = _; rw [g.mg]; exact hF) hb rv d3 d1
          subst h2
          unfold onOk at hon
          rw [Bool.and_eq_true] at hon
          obtain ⟨i, hi⟩ := Option.isSome_iff_exists.mp hon.2
          have pn' := pe_var (X := X.suite a ((a, oe) :: pn)) (i := i) (x := n) (pos := pn0) (by show X.N[i]? = _; rw [g.N]; exact idxOf_get hi) (by show Vis X.env.scope n; rw [g.sc]; exact .inl (isLocal_ok hon.1)) e1 e2
          have EC' : ExcC X.K C := by rw [g.K]; exact EC
          refine PE.imp (pe_callB (X := X.suite a ((a, oe) :: pn)) (call_isX EC' hz hf) k1 k2 bare_isi (pa_cons pn' (pa_cons pF pa_nil))) fun σ H Q q => ?_
          obtain ⟨i', hi', hσ⟩ := q.1.1 n rfl
          rw [hi] at hi'; cases hi'
          exact ⟨_, hσ, vc, cv, b, rfl, ru, by show PySem.W.kitOne X.K _ _ = _; rw [g.K]; exact hk, q.1.2.dok, q.2⟩
      · cases h
    · split at h
      · rename_i n pn0 f pA hm hc
        obtain ⟨rfl, h2, h3⟩ := hc
        obtain ⟨h4, h⟩ := (show G.ini x.cls = true ∧ (match x.flds with
          | [(_, .str m)] => some (PyData.str m)
          | _ => none) = some d from by
          split at h
          · rename_i h4; exact ⟨h4, h⟩
          · cases h)
        split at h
        · rename_i ky mm hfl
          cases h
          cases hv
          obtain ⟨C, hmC, hk, _⟩ := go.exc x.cls hxe
          rw [hx] at hmC
          cases hmC
          rcases hk with ⟨hi0, _⟩ | ⟨_, fI, T⟩
          · rw [hi0] at h4; cases h4
          · obtain ⟨e1, e2, e3⟩ := okName_d h3
            subst h2
            unfold onOk at hon
            rw [Bool.and_eq_true] at hon
            obtain ⟨i, hi⟩ := Option.isSome_iff_exists.mp hon.2
            have pn' := pe_var (X := X.suite a ((a, oe) :: pn)) (i := i) (x := n) (pos := pn0) (by show X.N[i]? = _; rw [g.N]; exact idxOf_get hi) (by show Vis X.env.scope n; rw [g.sc]; exact .inl (isLocal_ok hon.1)) e1 e2
            refine PE.imp (pe_byRef (X := X) (prog := U.P) (fI := fI) (by rw [g.K]; exact T) hz hf pn' rfl) fun σ H Q q => ?_
            obtain ⟨i', hi', hσ⟩ := q.1.1 n rfl
            rw [hi] at hi'; cases hi'
            rcases q.1.2 with ⟨z, _⟩ | ⟨m', a', z, z2, z3⟩
            · rw [hfl] at z; cases z
            · rw [hfl] at z
              cases z
              exact ⟨_, hσ, rfl, rfl, a', .str mm, z2, z3, q.2⟩
        · cases h
      · cases h
    · rename_i m' a1 b1 pp hm
      obtain rfl : m' = m := by omega
      split at h
      · rename_i p q hp hq
        cases h
        cases hv
        have pa := hexp_pe (a := a) (pn := pn) g go hx hxe hz hf hon m' a1 (.bool p) (.bl p) hp rfl
        have pb := hexp_pe (a := a) (pn := pn) g go hx hxe hz hf hon m' b1 (.bool q) (.bl q) hq rfl
        refine PE.imp (pe_and pa (pe_one pb)) fun σ H Q z => ?_
        refine ⟨z.1, p, rfl, ?_⟩
        cases p with
        | true => exact ⟨z.1, z.2⟩
        | false => exact z.2
      · cases h
    · rename_i m' a1 b1 pp hm
      obtain rfl : m' = m := by omega
      split at h
      · rename_i p q hp hq
        split at h
        · rename_i hl
          cases h
          cases hv
          have pa := hexp_pe (a := a) (pn := pn) g go hx hxe hz hf hon m' a1 (.str p) (.str p) hp rfl
          have pb := hexp_pe (a := a) (pn := pn) g go hx hxe hz hf hon m' b1 (.str q) (.str q) hq rfl
          exact PE.imp (pe_op op_add_str pa pb) fun σ H Q z => ⟨z.1, z.1, _, _, rfl, rfl, by rw [← sline_eq]; exact hl, z.2⟩
        · cases h
      · cases h
    · rename_i m' f as ks p a1 b1 pp hm
      obtain rfl : m' = m := by omega
      split at h
      · rename_i t ht
        have pc := hexp_pe (a := a) (pn := pn) g go hx hxe hz hf hon m' _ (.bool t) (.bl t) ht rfl
        cases t with
        | true =>
          rw [if_pos rfl] at h
          have pa := hexp_pe (a := a) (pn := pn) g go hx hxe hz hf hon m' a1 d v h hv
          exact PE.imp (pe_ifExp (pt_val pc) pa PE.none_) fun σ H Q z => ⟨z.1, true, rfl, z.1, z.2⟩
        | false =>
          rw [if_neg Bool.false_ne_true] at h
          have pb := hexp_pe (a := a) (pn := pn) g go hx hxe hz hf hon m' b1 d v h hv
          exact PE.imp (pe_ifExp (pt_val pc) PE.none_ pb) fun σ H Q z => ⟨z.1, false, rfl, z.1, z.2⟩
      · cases h
    · cases h
theorem hexp_sc : ∀ (m : Nat) {on : Option Str} {x : Exc} (e : Expr) (d : Py.D), hexp G Γ on x m e = some d → ∃ v, scV d = some v
  | 0, _, _, e, d, h => by cases h
  | m + 1, on, x, e, d, h => by
    unfold hexp at h
    split at h
    · rename_i h2; cases h2
    · cases h; exact ⟨_, rfl⟩
    · cases h; exact ⟨_, rfl⟩
    · cases h; exact ⟨_, rfl⟩
    · cases h; exact ⟨_, rfl⟩
    · split at h
      · cases hs : G.sub x.cls _ with
        | none => rw [hs] at h; cases h
        | some b => rw [hs] at h; cases h; exact ⟨_, rfl⟩
      · cases h
    · split at h
      · split at h
        · split at h
          · cases h; exact ⟨_, rfl⟩
          · cases h
        · cases h
      · cases h
    · split at h
      · cases h; exact ⟨_, rfl⟩
      · cases h
    · split at h
      · split at h
        · cases h; exact ⟨_, rfl⟩
        · cases h
      · cases h
    · rename_i m' _ _ _ _ _ _ _ hm
      obtain rfl : m' = m := by omega
      split at h
      · split at h
        · exact hexp_sc m' _ _ h
        · exact hexp_sc m' _ _ h
      · cases h
    · cases h
/-- data without a heap -/
def scVs : List Py.D → List V → Prop
  | [], vs => vs = []
  | d :: ds, vs => ∃ v r, vs = v :: r ∧ scV d = some v ∧ scVs ds r
theorem scVs_rp {ow : Ow} {H : Hp} : ∀ {ds : List Py.D} {vs : List V}, scVs ds vs → RpL U ow H ds vs
  | [], _, h => h
  | _ :: _, _, ⟨v, r, h1, h2, h3⟩ => ⟨v, r, h1, scV_rp h2, scVs_rp h3⟩
theorem scVs_len : ∀ {ds : List Py.D} {vs : List V}, scVs ds vs → vs.length = ds.length
  | [], _, h => by cases h; rfl
  | _ :: _, _, ⟨v, r, h1, h2, h3⟩ => by subst h1; exact congrArg Nat.succ (scVs_len h3)
def tHxA (Γ : Cxt) (on : Option Str) (a : Addr) (x : Exc) (od : Option Addr) (vs : List V) : TA := fun σ H Q => ((∀ n, on = some n → ∃ i, Γ.N.idxOf? n = some i ∧ σ[i]? = some (some (.ref a))) ∧ XFl H x.flds od) ∧ Q vs H
theorem hexpL_pa (g : GoodS U k Γ X W) (go : GlOk U k G) {on : Option Str} {x : Exc} {a : Addr} {oe : Obj} {pn : List (Addr × Obj)} {cls : Value} {od : Option Addr} (hx : U.mg x.cls = some cls) (hxe : G.exc x.cls = true) (hz : Zc cls od oe) (hf : ∃ vs, oe.data = .fields vs) (hon : onOk Γ on = true) :
    ∀ (es : List Expr) (ds : List Py.D), hexpL G Γ on x es = some ds → ds.length = es.length ∧ ∃ vs, scVs ds vs ∧ PA (X.suite a ((a, oe) :: pn)) es (tHxA Γ on a x od vs)
  | [], ds, h => by
    cases h
    exact ⟨rfl, [], rfl, PA.imp pa_nil fun σ H Q q => q.2⟩
  | e :: es, ds, h => by
    unfold hexpL at h
    split at h
    · rename_i hns
      split at h
      · rename_i d ds' hd hds
        cases h
        obtain ⟨v, hv⟩ := hexp_sc 5 e d hd
        obtain ⟨hl, vs, hvs, pa⟩ := hexpL_pa g go hx hxe hz hf hon es ds' hds
        exact ⟨congrArg Nat.succ hl, v :: vs, ⟨v, vs, rfl, hv, hvs⟩, PA.imp (pa_cons (hexp_pe g go hx hxe hz hf hon 5 e d v hd hv) pa (starEach_ns hns)) fun σ H Q q => ⟨q.1, q.1, q.2⟩⟩
      · cases h
    · cases h
/-- what a clause's return asks -/
def tsH (U : Wd) (Γ : Cxt) (G : Gs) (on : Option Str) (e : Expr) (a : Addr) (cls : Value) (od : Option Addr) : TS := fun D σ H => ∃ x d, U.mg x.cls = some cls ∧ G.exc x.cls = true ∧ XFl H x.flds od ∧ hret G Γ on x e = some d ∧
  (∀ n, on = some n → ∃ i, Γ.N.idxOf? n = some i ∧ σ[i]? = some (some (.ref a))) ∧ (∀ v, scV d = some v → D.rt v H) ∧ ∀ ds vs p, d = .list ds → scVs ds vs → H p = none → D.rt (.ref p) (upd H p (.lst vs))
theorem tsH_ok (g : GoodS U k Γ X W) (go : GlOk U k G) {on : Option Str} (hon : onOk Γ on = true) {e : Expr} {p : Pos} {a : Addr} {oe : Obj} {cls : Value} {od : Option Addr} {pn : List (Addr × Obj)} (hz : Zc cls od oe) (hf : ∃ vs, oe.data = .fields vs) :
    PSs (X.suite a ((a, oe) :: pn)) [.Return (some e) p] (tsH U Γ G on e a cls od) := ⟨fun pins s σ H D I h => by
  obtain ⟨x, d, hx, hxe, hfl, he, hsl, q1, q2⟩ := h
  unfold hret at he
  split at he
  · rename_i es pl
    obtain ⟨hlen, he⟩ := (show es.length ≤ 5 ∧ (hexpL G Γ on x es).map .list = some d from by
      split at he
      · rename_i h5; exact ⟨h5, he⟩
      · cases he)
    cases hds : hexpL G Γ on x es with
    | none => rw [hds] at he; cases he
    | some ds =>
      rw [hds] at he
      cases he
      obtain ⟨hl, vs, hvs, pa⟩ := hexpL_pa (a := a) (pn := pn) g go hx hxe hz hf hon es ds hds
      refine (pss_one (ps_ret (pe_lst pa))).run pins s σ H D I ⟨⟨hsl, hfl⟩, ?_, fun p np => q2 ds vs p rfl hvs np⟩
      rw [scVs_len hvs, hl, ← sline_eq]
      exact Nat.le_trans hlen (by decide)
  · obtain ⟨v, hv⟩ := hexp_sc 5 e d he
    exact (pss_one (ps_ret (hexp_pe g go hx hxe hz hf hon 5 e d v he hv))).run pins s σ H D I ⟨⟨hsl, hfl⟩, q1 v hv⟩⟩
/-- the clauses, one by one -/
inductive ClRel (U : Wd) (Γ : Cxt) (G : Gs) : List Clause → List Cl → Prop
  | nil : ClRel U Γ G [] []
  | cons {c : Str} {on : Option Str} {e : Expr} {C : Addr} {i : Option Nat} {l : List Clause} {L : List Cl} (hm : U.mg c = some (.ref C)) (hc : G.exc c = true)
      (hi : match on, i with | none, none => True | some n, some i => Γ.N.idxOf? n = some i | _, _ => False) (r : ClRel U Γ G l L) : ClRel U Γ G ((c, on, e) :: l) ((.ref C, i, tsH U Γ G on e) :: L)
theorem mix_ok (g : GoodS U k Γ X W) (go : GlOk U k G) : ∀ (hs : List ExceptHandler) (l : List Clause), tryOf hs = some l → l.all (clOk G Γ) = true → ∃ L, HdMix X hs L ∧ ClRel U Γ G l L
  | [], l, h, _ => by cases h; exact ⟨[], .nil, .nil⟩
  | hd :: hs, l, h, ha => by
    unfold tryOf at h
    split at h
    · rename_i e; cases e
    · rename_i c p1 on e p3 p4 r he
      cases he
      cases hr : tryOf hs with
      | none => rw [hr] at h; cases h
      | some l' =>
        rw [hr] at h
        cases h
        rw [List.all_cons, Bool.and_eq_true] at ha
        obtain ⟨L, hL, rL⟩ := mix_ok g go hs l' hr ha.2
        have hc := ha.1
        unfold clOk at hc
        simp only [Bool.and_eq_true] at hc
        obtain ⟨⟨⟨c1, c2⟩, c3⟩, c4⟩ := hc
        obtain ⟨C, hm, _, _⟩ := go.exc c c3
        obtain ⟨hd, _, _⟩ := okName_d c1
        have nm : Names X c (.ref C) := ⟨kindG_gl g.toGood c2, hd, .inl (by rw [g.mg]; exact hm)⟩
        cases on with
        | none => exact ⟨_, .cons (i := none) nm trivial (fun a oe cls d pn hz hf => tsH_ok g go c4 hz hf) hL, .cons hm c3 trivial rL⟩
        | some n =>
          have c4' := c4
          unfold onOk at c4'
          rw [Bool.and_eq_true] at c4'
          obtain ⟨i, hi⟩ := Option.isSome_iff_exists.mp c4'.2
          exact ⟨_, .cons (i := some i) nm ⟨by rw [g.N]; exact idxOf_get hi, by show X.env.scope.names.lookup n = _; rw [g.sc]; exact isLocal_ok c4'.1⟩ (fun a oe cls d pn hz hf => tsH_ok g go c4 hz hf) hL, .cons hm c3 hi rL⟩
    · cases h
theorem ps_try1 (g : GoodS U k Γ X W) (go : GlOk U k G) {ex : St → List Stmt → M Flow} (hx : SndSs U k Γ ex) {body : List Stmt} {hs : List ExceptHandler} {l : List Clause} {pos : Pos} (ht : tryOf hs = some l) :
    PS X (.Try body hs [] [] pos) (tOfS U W (fun σ => stTry G ex Γ σ body l)) := by
  by_cases hc : l.all (clOk G Γ) = true ∧ l ≠ []
  case neg => exact PS.fails fun σ => by unfold stTry; rw [if_neg hc]
  obtain ⟨L, hL, rL⟩ := mix_ok g go hs l ht hc.1
  have hbody : ∀ (W : WX) (pn : List (Addr × Obj)) (xe : Value → Shared → Prop), Takes (X.tr pn xe) W → PassesOwn (model X.prog X.w) X.A X.env xe → PSs (X.tr pn xe) body (tOfS U W (fun σ => ex σ body)) := fun W' pn xe tk' hp' =>
    hx (X.tr pn xe) W' ⟨⟨g.P, g.w, g.K, g.mg, g.base, g.N, g.sc, g.nd, g.calm, g.room, tk', g.stl, g.stc⟩, g.st, hp', g.stack, g.frame, g.fk⟩ body
  cases hs with
  | nil => cases ht; exact absurd rfl hc.2
  | cons h0 hs =>
    refine PS.imp (ps_try_mix (tb := fun W' => tOfS U W' (fun σ => ex σ body)) (Wout := W) g.stack g.frame (by rw [g.N]; exact g.nd) g.tk hbody hL) fun D σ H h => ?_
    obtain ⟨H0, ow0, Hk, owk, ow, σd, s, S, kk, w⟩ := h
    have w : Wp (stTry G ex Γ σd body l) s _ _ := w
    unfold stTry at w
    rw [if_pos hc] at w
    refine ⟨H0, ow0, Hk, owk, ow, σd, s, S, kk, (Wp.of_bind (m := ex σd body) (k := catchF G Γ l) w).mono (fun fl s2 q2 => ?_) fun _ _ z => z⟩
    cases fl with
    | nx σ' => exact fun ow σ H S k => q2.of_pure ow σ H S k
    | ct σ' => exact fun ow σ H S k => q2.of_pure ow σ H S k
    | brk σ' => exact fun ow σ H S k => q2.of_pure ow σ H S k
    | ret d o => exact fun ow σ H σd v S k1 k2 => q2.of_pure ow σ H σd v S k1 k2
    | rz x σ' =>
      intro ow2 σ2 H2 cls od S2 r
      obtain ⟨⟨hxe, hin⟩, q2⟩ := Wp.of_guard q2
      obtain ⟨r1, r2⟩ := r
      have go' : ∀ {l' : List Clause} {L' : List Cl}, ClRel U Γ G l' L' → (l'.all fun p => onIn Γ p.2.1 σ'.length) = true → Wp (clauses G Γ x σ' l') s2 (PostF U H0 ow0 Hk owk W D) (fun _ _ => False) → wMix X.K W D L' cls od σ2 H2 := by
        intro l' L' rl
        induction rl with
        | nil => exact fun _ q => q.of_pure _ _ _ _ _ S2 ⟨r1, r2⟩
        | @cons c on e C i l1 L1 hm hc hi rr ih =>
          intro hin q
          rw [List.all_cons, Bool.and_eq_true] at hin
          obtain ⟨C', hm', _, hex⟩ := go.exc c hc
          rw [hm] at hm'
          cases hm'
          have q : Wp (if x.cls = c then (match hret G Γ on x e with
            | some d => pure (.ret d false)
            | none => fail) else clauses G Γ x σ' l1) s2 _ _ := q
          refine ⟨decide (x.cls = c), by rw [g.K]; exact hex x.cls hxe _ r1, fun z a na => ?_, fun z => ?_⟩
          · rw [if_pos (of_decide_eq_true z)] at q
            cases hv : hret G Γ on x e with
            | none => rw [hv] at q; exact q.of_fail.elim
            | some d =>
              rw [hv] at q
              have rt : ∀ {D' : Ends}, (∀ v H', D.rt v H' → D'.rt v H') → (∀ v, scV d = some v → D'.rt v H2) ∧ ∀ ds vs p, d = .list ds → scVs ds vs → H2 p = none → D'.rt (.ref p) (upd H2 p (.lst vs)) := fun hD =>
                ⟨fun v hsv => hD _ _ (q.of_pure _ _ _ _ _ S2 (fun _ => scV_rp hsv) fun z => nomatch z), fun ds vs p hd hvs np => hD _ _ (by
                  subst hd
                  exact q.of_pure _ _ _ _ _ (S2.ext (Ext.new np) (S2.cap.new np)) (fun _ => Rp.newL (scVs_rp hvs) np (S2.nocap np) (S2.noow np)) fun z => nomatch z)⟩
              cases on with
              | none =>
                cases i with
                | some i => exact hi.elim
                | none => exact ⟨x, d, r1, hxe, r2, hv, fun n z => (nomatch z), rt (D' := D) fun _ _ z => z⟩
              | some n =>
                cases i with
                | none => exact hi.elim
                | some i =>
                  refine ⟨x, d, r1, hxe, r2, hv, fun n' z => ?_, rt (D' := dMix (some i) D) fun _ _ z => z⟩
                  cases z
                  have hi : Γ.N.idxOf? n = some i := hi
                  have hl : i < σ2.length := by
                    have h1 := hin.1
                    unfold onIn at h1
                    dsimp only at h1
                    rw [hi] at h1
                    rw [← S2.len]
                    exact of_decide_eq_true h1
                  exact ⟨i, hi, List.getElem?_set_self hl⟩
          · rw [if_neg (of_decide_eq_false z)] at q
            exact ih hin.2 q
      exact go' rL hin q2
end
end Py

set_option Elab.async false
set_option linter.all false
set_option maxRecDepth 100000
set_option maxHeartbeats 1000000
namespace Py
open PySem PySem.Spec PyProof.Rows L2
section
variable {U : Wd} {k : Nat} {Γ : Cxt} {X : Cx} {W : WX} {G : Gs} {ow ow0 : Ow} {H H0 H1 : Hp} {s s1 : DS} {σ : L2.St} {σd : St} {D : Ends}
theorem evE_slice {n : Nat} {lo hi st : Option Expr} {p : Pos} {σ : St} : evE G n Γ σ (.Slice lo hi st p) = fail := by cases n <;> rfl
theorem snd_asg (g : GoodS U k Γ X W) (go : GlOk U k G) (gf : FnsOk U k G) {n w : Nat} {ex : St → List Stmt → M Flow} (ts : List Expr) (e : Expr) (pos : Pos) :
    PS X (.Assign ts e pos) (tOfS U W (fun σ => exec1 G (evE G n) w ex Γ σ (.Assign ts e pos))) := by
  have hA := fun e => snd_E go gf n Γ X W g.toGood e
  have hE : ∀ e, PE X e (tOf U W (fun σ => evE G n Γ σ e) fun _ => false) := fun e => PE.weak ((hA e).1 0) (fun d z => by cases z)
  match ts with
  | [] => exact PS.fails fun _ => rfl
  | t :: t2 :: tr =>
    cases t with
    | Subscript o i q => exact PS.fails fun σ => by cases o <;> rfl
    | _ => exact PS.fails fun _ => rfl
  | [t] =>
    cases t with
    | Name x p =>
      have gen : (∀ σ, exec1 G (evE G n) w ex Γ σ (.Assign [.Name x p] e pos) = stAsg G (evE G n) Γ σ x e) → PS X (.Assign [.Name x p] e pos) (tOfS U W (fun σ => exec1 G (evE G n) w ex Γ σ (.Assign [.Name x p] e pos))) := fun h => PS.to h (ps_asgA g go gf)
      cases e with
      | Call fe args kws r =>
        cases fe with
        | Attribute o m q =>
          cases o with
          | Name l p2 =>
            cases kws with
            | nil =>
              by_cases hm : m = ("pop" : Str)
              · subst hm
                exact PS.to (fun σ => rfl) (ps_pop1 g hE)
              · exact gen fun σ => if_neg hm
            | cons _ _ => exact gen fun _ => rfl
          | _ => exact gen fun _ => rfl
        | _ => exact gen fun _ => rfl
      | _ => exact gen fun _ => rfl
    | Tuple es kt p =>
      cases e with
      | Tuple vs k2 p2 =>
        by_cases hoff : offPar Γ es vs = true
        · exact PS.to (fun σ => by show (if _ then _ else _) = _; rw [if_pos hoff]) (ps_tup1 (G := G) (ev := evE G n) g (hE _) rfl (sw_off g hoff) rfl)
        · exact PS.to (fun σ => by show (if _ then _ else _) = _; rw [if_neg hoff]) (ps_par1 g fun e => (snd_E go gf n Γ X W g.toGood e).1 40)
      | _ => exact PS.to (fun _ => rfl) (ps_tup1 (G := G) (ev := evE G n) g (hE _) rfl rfl rfl)
    | Subscript o i p =>
      cases o with
      | Name l p2 =>
        cases i with
        | Slice lo hi st p3 =>
          refine PS.fails fun σ => ?_
          show stSub _ _ _ _ _ _ _ = fail
          unfold stSub
          dsimp only
          rw [if_neg (fun z => by cases z.2)]
        | _ => exact PS.to (fun _ => rfl) (ps_sub1 (G := G) (ev := evE G n) g (hE e) (hE _) (by cases e <;> rfl) (by cases e <;> rfl) rfl fun _ => rfl)
      | _ => exact PS.fails fun _ => rfl
    | _ => exact PS.fails fun _ => rfl
theorem stMet_app {ev : Cxt → St → Expr → M Py.D} {σ : St} {l : Str} {q r : Pos} {args : List Expr} : stMet G ev Γ σ l "append" q r args = (match args with
                | [e] => stApp G ev Γ σ l q r e
                | _ => fail) := by
  unfold stMet
  exact if_pos rfl
theorem stMet_pop {ev : Cxt → St → Expr → M Py.D} {σ : St} {l : Str} {q r : Pos} {args : List Expr} : stMet G ev Γ σ l "pop" q r args = (match args with
                | [] => stPop0 Γ σ l q r
                | _ => fail) := by
  unfold stMet
  exact (if_neg (by decide)).trans (if_pos rfl)
theorem stMet_ext {ev : Cxt → St → Expr → M Py.D} {σ : St} {l : Str} {q r : Pos} {args : List Expr} : stMet G ev Γ σ l "extend" q r args = (match args with
                | [e] => stExt G ev Γ σ l q r e
                | _ => fail) := by
  unfold stMet
  exact (if_neg (by decide)).trans ((if_neg (by decide)).trans (if_pos rfl))
theorem stMet_no {ev : Cxt → St → Expr → M Py.D} {σ : St} {l m : Str} {q r : Pos} {args : List Expr} (h1 : ¬ m = ("append" : Str)) (h2 : ¬ m = ("pop" : Str)) (h3 : ¬ m = ("extend" : Str)) : stMet G ev Γ σ l m q r args = fail := by
  unfold stMet
  exact (if_neg h1).trans ((if_neg h2).trans (if_neg h3))
theorem raiseOf_ok {e : Expr} {c : Str × Str} (h : raiseOf e = some c) : ∃ p1 j p2 p3, e = .Call (.Name c.1 p1) [.Constant (.str c.2) j p2] [] p3 := by
  unfold raiseOf at h
  split at h
  · cases h; exact ⟨_, _, _, _, rfl⟩
  · cases h
theorem snd_1 (g : GoodS U k Γ X W) (go : GlOk U k G) (gf : FnsOk U k G) {n w : Nat} {ex : St → List Stmt → M Flow} (hx : SndSs U k Γ ex) (st : Stmt) :
    PS X st (tOfS U W (fun σ => exec1 G (evE G n) w ex Γ σ st)) := by
  have hA := fun e => snd_E go gf n Γ X W g.toGood e
  have hE : ∀ e, PE X e (tOf U W (fun σ => evE G n Γ σ e) fun _ => false) := fun e => PE.weak ((hA e).1 0) (fun d z => by cases z)
  cases st with
  | Pass p => exact PS.imp ps_pass fun D σ H ⟨H0, ow0, Hk, owk, ow, σd, s, S, kk, w⟩ => (show Wp (pure (Flow.nx σd)) s _ _ from w).of_pure _ _ _ S kk
  | Break p => exact PS.imp ps_break fun D σ H ⟨H0, ow0, Hk, owk, ow, σd, s, S, kk, w⟩ => (show Wp (pure (Flow.brk σd)) s _ _ from w).of_pure _ _ _ S kk
  | Continue p => exact PS.imp ps_continue fun D σ H ⟨H0, ow0, Hk, owk, ow, σd, s, S, kk, w⟩ => (show Wp (pure (Flow.ct σd)) s _ _ from w).of_pure _ _ _ S kk
  | Return o p =>
    cases o with
    | none => exact PS.imp ps_retN fun D σ H ⟨H0, ow0, Hk, owk, ow, σd, s, S, kk, w⟩ => (show Wp (pure (Flow.ret .none false)) s _ _ from w).of_pure _ _ _ _ _ S (fun _ => Rp.none) fun z => nomatch z
    | some e =>
      cases e with
      | Name x p2 => exact PS.to (fun _ => rfl) (ps_retN1 g (hE _))
      | _ => exact PS.to (fun _ => rfl) (ps_ret1 (G := G) (ev := evE G n) g ((hA _).1 40))
  | If c a b p => exact PS.to (fun _ => rfl) (ps_if1 g hx (hA c).2)
  | While c body orelse p =>
    cases orelse with
    | nil => exact PS.to (fun _ => rfl) (ps_while1 (w0 := fun σ => w + msr σ) g hx (hA c).2)
    | cons _ _ => exact PS.fails fun _ => rfl
  | For tg it body orelse p =>
    cases orelse with
    | nil => exact PS.to (fun _ => rfl) (ps_for1 g go hx hE)
    | cons _ _ => exact PS.fails fun _ => rfl
  | Assign ts e p => exact snd_asg g go gf ts e p
  | AugAssign t op e p =>
    cases t with
    | Name x p2 => exact PS.to (fun _ => rfl) (ps_aug1 g (hE e))
    | Subscript o i q =>
      cases o with
      | Name l p2 =>
        cases i with
        | Slice lo hi st p3 =>
          refine PS.fails fun σ => ?_
          show stAugS _ _ _ _ _ _ _ = fail
          unfold stAugS
          rw [if_neg (fun z => by cases z.2)]
        | _ => exact PS.to (fun _ => rfl) (ps_augS2 g (hE e) (hE _) (by intros; rfl))
      | _ => exact PS.fails fun _ => rfl
    | _ => exact PS.fails fun _ => rfl
  | Expr e p =>
    have gen : (∀ σ, exec1 G (evE G n) w ex Γ σ (.Expr e p) = stExp G (evE G n) Γ σ e) → PS X (.Expr e p) (tOfS U W (fun σ => exec1 G (evE G n) w ex Γ σ (.Expr e p))) := fun h => PS.to h (ps_exp1 g (hE e))
    cases e with
    | Call fe args kws r =>
      cases fe with
      | Attribute o m q =>
        cases o with
        | Name l p2 =>
          cases kws with
          | nil =>
            clear gen
            have h1 : ∀ args σ, exec1 G (evE G n) w ex Γ σ (.Expr (.Call (.Attribute (.Name l p2) m q) args [] r) p) = stMet G (evE G n) Γ σ l m q r args := fun _ _ => rfl
            by_cases hm : m = ("append" : Str)
            · subst hm
              match args with
              | [e] => exact PS.to (fun σ => (h1 _ σ).trans stMet_app) (ps_app1 g (hE e))
              | [] => exact PS.fails fun σ => (h1 _ σ).trans stMet_app
              | _ :: _ :: _ => exact PS.fails fun σ => (h1 _ σ).trans stMet_app
            · by_cases hm2 : m = ("pop" : Str)
              · subst hm2
                match args with
                | [] => exact PS.to (fun σ => (h1 _ σ).trans stMet_pop) (ps_pop0 g)
                | _ :: _ => exact PS.fails fun σ => (h1 _ σ).trans stMet_pop
              · by_cases hm3 : m = ("extend" : Str)
                · subst hm3
                  match args with
                  | [e] => exact PS.to (fun σ => (h1 _ σ).trans stMet_ext) (ps_ext1 g (hE e))
                  | [] => exact PS.fails fun σ => (h1 _ σ).trans stMet_ext
                  | _ :: _ :: _ => exact PS.fails fun σ => (h1 _ σ).trans stMet_ext
                · exact PS.fails fun σ => (h1 _ σ).trans (stMet_no hm hm2 hm3)
          | cons _ _ => exact gen fun _ => rfl
        | _ => exact gen fun _ => rfl
      | _ => exact gen fun _ => rfl
    | _ => exact gen fun _ => rfl
  | Raise o c p =>
    cases o with
    | none => exact PS.fails fun _ => rfl
    | some e =>
      cases c with
      | some c => exact PS.fails fun σ => rfl
      | none =>
        have h1 : ∀ σ, exec1 G (evE G n) w ex Γ σ (.Raise (some e) none p) = (match raiseOf e with
          | some (c, m) => stRaise G Γ σ c m
          | none => fail) := fun _ => rfl
        cases hr : raiseOf e with
        | none => exact PS.fails fun σ => by rw [h1, hr]
        | some c =>
          obtain ⟨p1, j, p2, p3, rfl⟩ := raiseOf_ok hr
          exact PS.to (fun σ => by rw [h1, hr]) (ps_raise1 g go)
  | Try body hs orelse fin p =>
    cases orelse with
    | cons _ _ => exact PS.fails fun _ => rfl
    | nil =>
      cases fin with
      | cons _ _ => exact PS.fails fun _ => rfl
      | nil =>
        have h1 : ∀ σ, exec1 G (evE G n) w ex Γ σ (.Try body hs [] [] p) = (match tryOf hs with
          | some l => stTry G ex Γ σ body l
          | none => fail) := fun _ => rfl
        cases hr : tryOf hs with
        | none => exact PS.fails fun σ => by rw [h1, hr]
        | some cv =>
          exact PS.to (fun σ => by rw [h1, hr]) (ps_try1 g go hx hr)
  | _ => exact PS.fails fun _ => rfl
/-- suites -/
theorem snd_x (go : GlOk U k G) (gf : FnsOk U k G) {n w : Nat} : ∀ m, SndSs U k Γ (exec G (evE G n) w Γ m)
  | 0 => fun X W g sts => ⟨fun pins s' σ H D I h => by
    obtain ⟨H0, ow0, Hk, owk, ow, σd, s, S, kk, w⟩ := h
    exact (show Wp fail s _ _ from w).of_fail.elim⟩
  | m + 1 => fun X W g sts => by
    cases sts with
    | nil => exact PSs.imp pss_nil fun D σ H ⟨H0, ow0, Hk, owk, ow, σd, s, S, kk, w⟩ => (show Wp (pure (Flow.nx σd)) s _ _ from w).of_pure _ _ _ S kk
    | cons st rest =>
      refine PSs.imp (pss_cons (snd_1 (n := n) (w := w) g go gf (snd_x (n := n) (w := w) go gf m) st) (snd_x (n := n) (w := w) go gf m X W g rest)) fun D σ H ⟨H0, ow0, Hk, owk, ow, σd, s, S, kk, w'⟩ => ?_
      have w' : Wp (thenF (exec1 G (evE G n) w (exec G (evE G n) w Γ m) Γ σd st) fun σ' => exec G (evE G n) w Γ m σ' rest) s _ _ := w'
      unfold thenF at w'
      refine ⟨H0, ow0, Hk, owk, ow, σd, s, S, kk, w'.of_bind.mono (fun fl s2 q2 => ?_) fun _ _ z => z⟩
      cases fl with
      | nx σ' => exact fun ow σ H S k => ⟨H0, ow0, Hk, owk, ow, σ', s2, S, k, q2⟩
      | ct σ' => exact fun ow σ H S k => q2.of_pure ow σ H S k
      | brk σ' => exact fun ow σ H S k => q2.of_pure ow σ H S k
      | ret d o => exact fun ow σ H σd v S k1 k2 => q2.of_pure ow σ H σd v S k1 k2
      | rz x σ' => exact fun ow σ H cls od S r => q2.of_pure ow σ H cls od S r
end
end Py

set_option Elab.async false
set_option linter.all false
set_option maxRecDepth 100000
set_option maxHeartbeats 1000000
namespace Py
open PySem PySem.Spec PyProof.Rows L2
section
variable {U : Wd} {k : Nat} {Γ : Cxt} {X : Cx} {W : WX} {G : Gs} {ow ow0 : Ow} {H H0 H1 : Hp} {s s1 : DS} {σ : L2.St} {σd : St} {D : Ends}
/-- the caller's lists are nobody's here -/
def dem (ow : Ow) : Ow := fun a => match ow a with
  | none => none
  | some _ => some 0
theorem dem_none {a : Addr} : dem ow a = none ↔ ow a = none := by
  unfold dem
  cases ow a <;> simp
theorem dem_keep : Keep U ow (dem ow) H H := fun a u _ ho e => ⟨e, dem_none.mpr ho⟩
theorem dem_keep' : Keep U (dem ow) ow H H := fun a u _ ho e => ⟨e, dem_none.mp ho⟩
theorem start_get {N : List Str} {ds : List Py.D} {i : Nat} {d : Py.D} {o : Bool} (h : (Py.start N ds)[i]? = some (some (d, o))) : o = false ∧ ds[i]? = some d := by
  unfold Py.start at h
  by_cases hi : i < ds.length
  · rw [List.getElem?_append_left (by simpa using hi), List.getElem?_map, List.getElem?_eq_getElem hi] at h
    cases h
    exact ⟨rfl, List.getElem?_eq_getElem hi⟩
  · rw [List.getElem?_append_right (by simpa using hi), List.getElem?_replicate] at h
    split at h <;> cases h
theorem SR.start {N : List Str} {ds : List Py.D} {vs : List V} (hk : Hk U ow H s) (hc : ow U.cell = none) (r : RpL U ow H ds vs) : SR U H (dem ow) (dem ow) (L2.start N vs) H (Py.start N ds) s := by
  refine ⟨fun a h => hk.1 a fun z => h (dem_none.mpr z), dem_none.mpr hk.capo, dem_none.mpr hc, fun a i h => ?_, fun _ _ _ => rfl, Ext.refl, fun i d o h => ?_, hk.cap, ?_⟩
  · unfold dem at h
    cases e : ow a with
    | none => rw [e] at h; cases h
    | some j => rw [e] at h; cases h
  · obtain ⟨ho, hd⟩ := start_get h
    obtain ⟨v, hv, rv⟩ := r.get hd
    have hi : i < vs.length := by
      by_cases z : i < vs.length
      · exact z
      · rw [List.getElem?_eq_none (by omega)] at hv; cases hv
    refine ⟨v, ?_, fun _ => Rp.mono dem_keep _ _ rv, fun z => by rw [ho] at z; cases z⟩
    unfold L2.start
    rw [List.getElem?_append_left (by simpa using hi), List.getElem?_map, hv]
    rfl
  · unfold Py.start L2.start
    simp [r.length]
/-- what is made of the module's def -/
structure FdOk (U : Wd) (x : Str) (F : Fd) : Prop where
  ex : ∃ nm qual st f fd, L2.Fun U.K nm qual st f fd ∧ FnScope F.N F.ps (defScope st) ∧ F.sc = defScope st ∧ F.body = defBody st ∧ U.mg x = some (.ref f) ∧ Binds U.K fd F.ps []
structure PrOk (U : Wd) (k : Nat) (x : Str) (p : List Py.D → M Py.D) : Prop where
  ex : ∃ f fd ps, U.mg x = some (.ref f) ∧ PySem.W.keepIn U.K (.ref f) = true ∧ Binds U.K fd ps [] ∧ FnOk U.P U.w U.K U.mg U.base (L2.CX U.P U.w) k f fd ps (spF U (fun _ => p) ⟨false, true⟩ x ps.length) ∧ ∀ ds s, ds.length ≠ ps.length → p ds s = .fail
theorem fn_sound {P : Pg} {w j : Nat} {x : Str} {F : Fd} (go : GlOk U k (P.gl (P.call w j))) (gf : FnsOk U k (P.gl (P.call w j))) (hp : P.prim x = none) (hF : P.fd x = some F) (ok : FdOk U x F) :
    ∃ f fd ps, U.mg x = some (.ref f) ∧ PySem.W.keepIn U.K (.ref f) = true ∧ Binds U.K fd ps [] ∧ FnOk U.P U.w U.K U.mg U.base (L2.CX U.P U.w) (k + 1) f fd ps (spF U (P.call w (j + 1)) F.flg x ps.length) ∧ ∀ ds s, ds.length ≠ ps.length → P.call w (j + 1) x ds s = .fail := by
  obtain ⟨nm, qual, st, f, fd, Fn, S, hsc, hbd, hm, hb⟩ := ok.ex
  have hcall : ∀ ds, P.call w (j + 1) x ds = runFd (P.gl (P.call w j)) w F ds := fun ds => by
    unfold Pg.call
    rw [hp, hF]
  refine ⟨f, fd, F.ps, hm, Fn.kp, hb, Fn.okX S (fun vs H Q E h => h.1) fun cdv A outer s0 H vs Q E hr hsp => ?_, fun ds s hl => ?_⟩
  · obtain ⟨hl, ow, s, ds, hk, hcl, r, w'⟩ := hsp
    rw [hcall] at w'
    unfold runFd at w'
    obtain ⟨_, w'⟩ := w'.of_guard
    have w' := quiet_wp w'.of_bind
    have g : GoodS U k ⟨F.N, F.sc, F.sc⟩ (cxOf (L2.CX U.P U.w) U.P U.w U.K U.mg U.base F.N qual (defScope st) f cdv A outer s0 H E) (fun cls d _ H => E cls d H) :=
      ⟨⟨rfl, rfl, rfl, rfl, rfl, rfl, hsc.symm, S.nd, rfl, hr, takes_of rfl rfl rfl rfl, fun _ h => h, fun _ h => ⟨h, rfl⟩⟩, rfl, passes_of rfl, rfl, rfl, by show F.sc.kind = _; rw [hsc]; exact S.kind⟩
    rw [← hbd]
    refine ⟨_, snd_x go gf 60 _ _ g F.body, H, dem ow, H, dem ow, dem ow, _, s, SR.start hk hcl r, Keep.refl, w'.mono (fun fl s2 q2 => ?_) fun _ _ z => z⟩
    have back : ∀ {ow2 : Ow} {H2 : Hp}, (∀ a u, H a = some u → ow2 a = dem ow a) → ∀ b, ow2 b = none → ow b = none := fun ag b hb => by
      cases e : H b with
      | none =>
        cases e2 : ow b with
        | none => rfl
        | some i =>
          obtain ⟨u, hu, _⟩ := hk.1 b (by rw [e2]; intro z; cases z)
          rw [e] at hu; cases hu
      | some u => exact dem_none.mp ((ag b u e).symm.trans hb)
    cases fl with
    | nx σ' =>
      intro ow2 σ2 H2 S2 _
      unfold endF at q2
      rcases q2.of_ite with ⟨_, q2⟩ | ⟨_, q2⟩
      · exact q2.of_fail.elim
      · exact q2.of_pure _ H2 S2.base S2.cap Rp.none fun z => by simp [isL] at z
    | brk σ' => exact q2.of_fail.elim
    | ct σ' => exact q2.of_fail.elim
    | ret d o =>
      intro ow2 σ2 H2 σ2d v S2 r1 r2
      unfold endF at q2
      have q3 : ¬ ((F.flg.fr = true ∧ o = false) ∨ (F.flg.fl = true ∧ flat d = false)) ∧ PostE U ow (fun d => F.flg.fr && isL d) H Q d s2 := by
        rcases q2.of_ite with ⟨_, q2⟩ | ⟨hno, q2⟩
        · exact q2.of_fail.elim
        · exact ⟨hno, q2.of_pure⟩
      clear q2
      obtain ⟨hno, q2⟩ := q3
      have bk := back (ow2 := ow2) (H2 := H2) S2.agr
      cases o with
      | false =>
        exact q2 v H2 S2.base S2.cap (Rp.mono (fun b u _ hb e => ⟨e, bk b hb⟩) _ _ (r1 rfl)) fun z => by
          rw [Bool.and_eq_true] at z
          exact absurd (.inl ⟨z.1, rfl⟩) hno
      | true =>
        obtain ⟨a, u0, ev, hn, ha, hca, rr⟩ := r2 rfl
        have hoa : ow a = none := by
          cases e2 : ow a with
          | none => rfl
          | some i =>
            obtain ⟨u, hu, _⟩ := hk.1 a (by rw [e2]; intro z; cases z)
            rw [hn] at hu; cases hu
        have bk2 : ∀ b, (if b = a then some 0 else ow2 b) = none → b ≠ a ∧ ow b = none := fun b hb => by
          by_cases z : b = a
          · rw [if_pos z] at hb; cases hb
          · rw [if_neg z] at hb; exact ⟨z, bk b hb⟩
        refine q2 v H2 S2.base S2.cap ?_ fun _ => ⟨a, u0, ev, hn, ha, hca, fun i => Sh.mono (fun b u _ hb e => ⟨e, ?_⟩) rr⟩
        · rw [ev]
          rcases rr with ⟨ds, xs, ed, eu, rr⟩ | ⟨ds, xs, ed, eu, rr⟩
          · subst ed eu
            unfold Rp
            exact ⟨a, xs, rfl, ⟨ha, hoa, hca⟩, RpL.mono (fun b u _ hb e => ⟨e, (bk2 b hb).2⟩) _ _ rr⟩
          · subst ed eu
            unfold Rp
            exact .inr ⟨a, xs, rfl, .inl ⟨ha, hoa, hca⟩, RpD.mono (fun b u _ hb e => ⟨e, (bk2 b hb).2⟩) _ _ rr⟩
        · show (if b = a then some i else ow b) = none
          rw [if_neg (bk2 b hb).1]
          exact (bk2 b hb).2
    | rz x σ' =>
      intro ow2 σ2 H2 cls od S2 r
      exact (show PostXE U E H x s2 from q2) cls od H2 S2.base S2.cap r
  · rw [hcall]
    unfold runFd
    rw [if_neg hl]
    rfl
/-- the program -/
structure PgOk (U : Wd) (P : Pg) (k : Nat) : Prop where
  gl : ∀ j call, GlOk U j (P.gl call)
  fd : ∀ x F, P.prim x = none → P.fd x = some F → FdOk U x F
  pr : ∀ x p, P.prim x = some p → PrOk U k x p
theorem spF_fail {call : Str → List Py.D → M Py.D} {fg : Flg} {x : Str} {n : Nat} (h : ∀ ds, call x ds = fail) {vs : List V} {H : Hp} {Q : VK} {E : XK} (q : spF U call fg x n vs H Q E) : False := by
  obtain ⟨_, _, _, _, _, _, _, w⟩ := q
  rw [h] at w
  exact w.of_fail
theorem pg_sound {P : Pg} {w k0 : Nat} (ok : PgOk U P k0) : ∀ j, FnsOk U (k0 + j) (P.gl (P.call w j))
  | 0 => ⟨fun x fg hx => by
    have hf : ∀ ds, P.call w 0 x ds = fail := fun _ => rfl
    have hx : P.flg x = some fg := hx
    unfold Pg.flg at hx
    cases hp : P.prim x with
    | some p =>
      obtain ⟨f, fd, ps, h1, h2, h3, _, _⟩ := (ok.pr x p hp).ex
      exact ⟨f, fd, ps, h1, h2, h3, ⟨fun vs H Q E h => (spF_fail hf h).elim, fun A outer s H args us vs Q E _ _ _ _ h => (spF_fail hf h).elim⟩, fun _ _ _ => rfl⟩
    | none =>
      rw [hp] at hx
      cases hF : P.fd x with
      | none => rw [hF] at hx; cases hx
      | some F =>
        obtain ⟨nm, qual, st, f, fd, Fn, S, hsc, hbd, hm, hb⟩ := (ok.fd x F hp hF).ex
        exact ⟨f, fd, F.ps, hm, Fn.kp, hb, ⟨fun vs H Q E h => (spF_fail hf h).elim, fun A outer s H args us vs Q E _ _ _ _ h => (spF_fail hf h).elim⟩, fun _ _ _ => rfl⟩⟩
  | j + 1 => ⟨fun x fg hx => by
    have hx : P.flg x = some fg := hx
    unfold Pg.flg at hx
    cases hp : P.prim x with
    | some p =>
      rw [hp] at hx
      cases hx
      obtain ⟨f, fd, ps, h1, h2, h3, h4, h5⟩ := (ok.pr x p hp).ex
      have hc : ∀ ds, P.call w (j + 1) x ds = p ds := fun ds => by unfold Pg.call; rw [hp]
      refine ⟨f, fd, ps, h1, h2, h3, (h4.mono (by omega)).imp fun vs H Q E h => ?_, fun ds s hl => by show P.call w (j + 1) x ds s = _; rw [hc]; exact h5 ds s hl⟩
      obtain ⟨a, ow, s, ds, b, c, d, e⟩ := h
      have e : Wp (P.call w (j + 1) x ds) s _ _ := e
      rw [hc] at e
      exact ⟨a, ow, s, ds, b, c, d, e⟩
    | none =>
      rw [hp] at hx
      cases hF : P.fd x with
      | none => rw [hF] at hx; cases hx
      | some F =>
        rw [hF] at hx
        cases hx
        exact fn_sound (ok.gl _ _) (pg_sound ok j) hp hF (ok.fd x F hp hF)⟩
end
end Py

set_option Elab.async false
set_option linter.all false
set_option maxRecDepth 100000
set_option maxHeartbeats 1000000
namespace Py
open PySem PySem.Spec PyProof.Rows L2
/-- the token for the drawing row -/
abbrev tok : Py.D := .dict [(.none, .none)]
def takeP : List Py.D → M Py.D
  | [.dict [(.none, .none)], .int n] => take n
  | _ => fail
def absZ (n : Int) : Int := if n < 0 then -n else n
/-- what _law_draw makes -/
def spDraw (K : PySem.W.Frag) : Sp := fun vs H Q _ => ∃ (a : Addr) (ns : List Int), vs = [.ref a] ∧ SqL K H a (ns.map V.int) ∧ ns.length ≤ 63 ∧
  ∀ (p c : Addr) (H' : Hp) (sd : Int), p ≠ c → (∀ b u, H b = some u → H' b = some u) → 0 ≤ sd → sd < 2147483647 → H' p = some (.lst [.ref c, .int (-1), .int 0, .int sd]) → H' c = some (.lst ((ns.map absZ).map V.int)) → Q (.ref p) H'
/-- what the law promises -/
def spLaw (K : PySem.W.Frag) : Sp := fun vs H Q _ => ∃ (a : Addr) (ns : List Int), vs = [.ref a] ∧ SqL K H a (ns.map V.int) ∧ ns.length ≤ 63 ∧ ∀ H', Q (.bl true) H'
def startL (n : Nat) : St := (List.replicate n none).set 1 (some (tok, false))
/-- the body behind the drawing row runs to True -/
def LawRun (P : Pg) (j w : Nat) (N : List Str) (sc : Scope) (rest : List Stmt) : Prop := ∀ (ns : List Int) (sd : Int), ns.length ≤ 63 → 0 ≤ sd → sd < 2147483647 →
  Wp (exec (P.gl (P.call w j)) (evE (P.gl (P.call w j)) 40) w ⟨N, sc, sc⟩ 60 (startL N.length) rest) ⟨ns.map absZ, -1, 0, sd⟩ (fun fl _ => ∃ o, fl = .ret (.bool true) o) fun _ _ => False
theorem law_sound {P0 : Program} {w0 : World} {K : PySem.W.Frag} {mg : Str → Option Value} {base : Heap} {P : Pg} {k0 j w : Nat} {st : Stmt} {f fdr : Addr} {fd fdd : FuncData} {N : List Str} {rest : List Stmt} {p1 p2 p3 p4 p5 : Pos}
    (ok : ∀ cap cell, PgOk ⟨P0, w0, K, mg, base, cap, cell⟩ P k0) (F : L2.Fun K "law" "law" st f fd) (S : FnScope N ["script"] (defScope st))
    (hb : defBody st = .Assign [.Name "draw" p1] (.Call (.Name "_law_draw" p2) [.Name "script" p3] [] p4) p5 :: rest) (h0 : N[0]? = some ("script" : Str)) (h1 : N[1]? = some ("draw" : Str)) (v0 : (defScope st).names.lookup ("script" : Str) = some .local) (v1 : (defScope st).names.lookup ("draw" : Str) = some .local ∨ (defScope st).names.lookup ("draw" : Str) = some .cell)
    (gd : (defScope st).names.lookup ("_law_draw" : Str) = some .globalImplicit)
    (D0 : FnOk P0 w0 K mg base (L2.CX P0 w0) 1 fdr fdd ["script"] (spDraw K)) (hm : mg "_law_draw" = some (.ref fdr)) (hk : PySem.W.keepIn K (.ref fdr) = true) (hbd : Binds K fdd ["script"] []) (hk0 : 1 ≤ k0)
    (run : LawRun P j w N (defScope st) rest) : FnOk P0 w0 K mg base (L2.CX P0 w0) (k0 + j + 1) f fd ["script"] (spLaw K) := by
  refine F.okX S (fun vs H Q E h => by obtain ⟨a, ns, rfl, _⟩ := h; rfl) fun cdv A outer s0 H vs Q E hr h => ?_
  obtain ⟨a, ns, rfl, hS, h63, q⟩ := h
  rw [hb]
  have rs : PSs (cxOf (L2.CX P0 w0) P0 w0 K mg base N "law" (defScope st) f cdv A outer s0 H E) rest (fun D σ H' => ∃ cap cell, tOfS ⟨P0, w0, K, mg, base, cap, cell⟩ (fun cls d _ H => E cls d H) (fun σ => exec (P.gl (P.call w j)) (evE (P.gl (P.call w j)) 40) w ⟨N, defScope st, defScope st⟩ 60 σ rest) D σ H') := ⟨fun pins s σ H' D I ⟨cap, cell, h⟩ => by
    have g : GoodS ⟨P0, w0, K, mg, base, cap, cell⟩ (k0 + j) ⟨N, defScope st, defScope st⟩ (cxOf (L2.CX P0 w0) P0 w0 K mg base N "law" (defScope st) f cdv A outer s0 H E) (fun cls d _ H => E cls d H) :=
      ⟨⟨rfl, rfl, rfl, rfl, rfl, rfl, rfl, S.nd, rfl, hr, takes_of rfl rfl rfl rfl, fun _ h => h, fun _ h => ⟨h, rfl⟩⟩, rfl, passes_of rfl, rfl, rfl, S.kind⟩
    exact (snd_x ((ok cap cell).gl _ _) (pg_sound (ok cap cell) j) 60 _ _ g rest).run pins s σ H' D I h⟩
  refine ⟨_, pss_cons (ps_set (i := 1) S.nd h1 v1 (pe_call (E := E0) (D0.mono (by omega : 1 ≤ k0 + j)) hr gd hm hk hbd .nil passL (pa_cons (pe_var (i := 0) h0 (.inl v0)) pa_nil)) rfl (.inl rfl)) rs, ?_⟩
  refine ⟨_, (by unfold L2.start; rfl), a, ns, rfl, hS, h63, fun p c H' sd hpc hx g0 g1 hp hc => ⟨p, c, H', fun _ => none, H', fun _ => none, fun _ => none, startL N.length, ⟨ns.map absZ, -1, 0, sd⟩, ?_, Keep.refl, (run ns sd h63 g0 g1).mono (fun fl s2 ⟨o, e⟩ => ?_) fun _ _ z => z⟩⟩
  · have hl : 2 ≤ N.length := by
      by_cases z : 2 ≤ N.length
      · exact z
      · rw [List.getElem?_eq_none (by omega)] at h1; cases h1
    refine ⟨fun _ h => absurd rfl h, rfl, rfl, fun _ _ h => (nomatch h), fun _ _ _ => rfl, Ext.refl, fun i d o h => ?_, ⟨hp, hc, fun z => hpc z.symm⟩, ?_⟩
    · unfold startL at h
      by_cases hi : 1 = i
      · subst hi
        rw [List.getElem?_set_self (by simp; omega)] at h
        cases h
        refine ⟨.ref p, List.getElem?_set_self (by unfold L2.start; simp; omega), fun _ => ?_, fun z => nomatch z⟩
        unfold Rp
        exact .inl ⟨rfl, rfl⟩
      · rw [List.getElem?_set_ne hi, List.getElem?_replicate] at h
        split at h <;> cases h
    · unfold startL L2.start
      simp
      omega
  · subst e
    intro ow σ H2 σd v S2 r1 r2
    cases o with
    | true =>
      obtain ⟨_, _, _, _, _, _, rr⟩ := r2 rfl
      rcases rr with ⟨_, _, e, _⟩ | ⟨_, _, e, _⟩ <;> cases e
    | false =>
      have := r1 rfl
      unfold Rp at this
      subst this
      exact q H2
end Py

set_option Elab.async false
set_option linter.all false
set_option maxRecDepth 100000
namespace Py
open PySem
/-! What a def's run is, with neither names nor text: the parts. -/
def rd (σ : St) (i : Nat) : M D := match σ[i]? with
  | some (some (d, own)) => if own = true ∧ true = false then fail else pure d
  | _ => fail
def rdV (σ : St) (i : Nat) : M D := match σ[i]? with
  | some (some (d, own)) => if own = true ∧ false = false then fail else pure d
  | _ => fail
def ownI (σ : St) (i : Nat) : Option (Nat × List D) := match σ[i]? with
  | some (some (.list ds, true)) => some (i, ds)
  | _ => none
def evsS : List (M D) → M (List D)
  | [] => pure []
  | m :: ms => do let d ← m; let ds ← evsS ms; pure (d :: ds)
def tstS (m : M D) : M Bool := do let d ← m; asBool d
def andS : List (M D) → M D
  | [] => fail
  | [m] => m
  | m :: ms => do let b ← tstS m; if b = true then andS ms else pure (.bool false)
def orS : List (M D) → M D
  | [] => fail
  | [m] => m
  | m :: ms => do let b ← tstS m; if b = true then pure (.bool true) else orS ms
def ifeS (c a b : M D) : M D := do let t ← tstS c; if t = true then a else b
def binS (op : Operator) (a b : M D) : M D := do let x ← a; let y ← b; binop op x y
def negS (a : M D) : M D := do let x ← a; let i ← asInt x; pure (.int (-i))
def notS (a : M D) : M D := do let b ← tstS a; pure (.bool (!b))
def tupS (ms : List (M D)) : M D := do let ds ← evsS ms; if ds.length ≤ sline then pure (.tuple ds) else fail
def lstS (ms : List (M D)) : M D := do let ds ← evsS ms; if ds.length ≤ sline then pure (.list ds) else fail
def ixS (a i : M D) : M D := do let x ← a; let k ← i; getD' x k
def optS : Option (M D) → M (Option Int)
  | none => pure none
  | some m => do let d ← m; let i ← asInt d; pure (some i)
def slS (a : M D) (lo hi : Option (M D)) : M D := do let x ← a; let l ← optS lo; let h ← optS hi; getS x l h
def isiS (a : M D) (t : Str) : M D := do
  let x ← a
  match isi x t with
  | some b => pure (.bool b)
  | none => fail
def isiS2 (a : M D) (t t2 : Str) : M D := do
  let x ← a
  match isi x t, isi x t2 with
  | some b, some c => pure (.bool (b || c))
  | _, _ => fail
def biS (f : Str) (ms : List (M D)) : M D := do let xs ← evsS ms; bi f xs
def callS (call : Str → List D → M D) (f : Str) (ms : List (M D)) : M D := do let xs ← evsS ms; call f xs
def callTS (call : Str → List D → M D) (fi : M D) (fs : List Str) (ms : List (M D)) : M D := do
  let d ← fi
  let j ← asInt d
  match L2.atI fs j with
  | some f => do let xs ← evsS ms; call f xs
  | none => fail
def call0S (call : Str → List D → M D) (f : Str) : M D := do let xs ← evsS []; quiet (call f xs)
def met1S (m : Str) (o e : M D) : M D := do let x ← o; methD x m e
def callF (call : Str → List D → M D) (f : Str) (ms : List (M D)) : M D := do
  let xs ← evsS ms
  let d ← call f xs
  if flat d = true then pure d else fail
def iterS (g : Str) (ms : List (M D)) : M (List D) := do let xs ← evsS ms; iterC g xs
def compS (items : M (List D)) (bind : D → Option St) (f : St → M Bool) (g : St → M D) : M D := do
  let ds ← items
  let ys ← quiet (compL bind f g ds)
  if ys.length ≤ sline then pure (.list ys) else fail
def comp2S (items : M (List D)) (bind : D → Option St) (f : St → M Bool) (it : St → M (List D)) (vs : List Nat) (bind2 : St → D → Option St) (f2 : St → M Bool) (g : St → M D) : M D := do
  let ds ← items
  let ys ← quiet (compL2 bind f it vs bind2 f2 g ds)
  if ys.length ≤ sline then pure (.list ys) else fail
def sRet (σ : St) (m : M D) (fr : Bool) : M Flow := stE m σ fun d => pure (.ret d (fr && isL d))
def ownDI (σ : St) (i : Nat) : Option (Nat × List (D × D)) := match σ[i]? with
  | some (some (.dict kvs, true)) => some (i, kvs)
  | _ => none
/-- {k: v, ..} -/
def pairsS : List (M D × M D) → M (List (D × D))
  | [] => pure []
  | p :: r => do let x ← p.1; let y ← p.2; let ps ← pairsS r; pure ((x, y) :: ps)
def dctS (r : List (M D × M D)) : M D := do
  let ps ← pairsS r
  if dOk ps = true ∧ (ps.map fun p => keyD p.1).Nodup then pure (.dict ps) else fail
def sRetN (σ : St) (i : Nat) : M Flow := match ownI σ i with
  | some (_, ds) => pure (.ret (.list ds) true)
  | none => match ownDI σ i with
    | some (_, kvs) => if dOk kvs = true then pure (.ret (.dict kvs) true) else fail
    | none => stE (rdV σ i) σ fun d => pure (.ret d false)
def sAsg (σ : St) (m : M D) (i : Nat) (fr : Bool) : M Flow := stE m σ fun d => nx1 (some (σ.set i (some (d, fr && isL d))))
def sIf (σ : St) (c : M D) (a b : M Flow) : M Flow := stE (tstS c) σ fun t => if t = true then a else b
def sWhile (c : St → M D) (body : St → M Flow) (n : Nat) (σ : St) : M Flow := whileL (fun σ => tstS (c σ)) body n σ
def sFor (σ : St) (items : M (List D)) (t : Tg) (body : St → M Flow) : M Flow := stE items σ fun ds => forL (bindG t) body ds σ
def sTup (σ : St) (m : M D) (t : Tg) : M Flow := stE m σ fun d => nx1 (bindG t σ d)
def setZ : St → List Nat → List D → Option St
  | σ, i :: is, d :: ds => (some (σ.set i (some (d, false)))).bind fun σ' => setZ σ' is ds
  | σ, _, _ => some σ
def sPar (σ : St) (ms : List (M D)) (is : List Nat) : M Flow := stE (evsS ms) σ fun ds => nx1 (setAll σ is ds)
def sParN (σ : St) (ns : List Bool) (ms : List (M D)) (is : List Nat) : M Flow := stE (evsS ms) σ fun ds => nx1 (setPar ns σ is ds)
def revS (a : M D) : M D := do let x ← a; revD x
def sSub (σ : St) (l : Nat) (i e : M D) : M Flow := stE e σ fun d => match ownI σ l with
  | some (k, ds) => stE i σ fun j => match j with
    | .int j => match L2.ixN ds.length j with
      | some n => pure (.nx (σ.set k (some (.list (ds.set n d), true))))
      | none => fail
    | _ => fail
  | none => match ownDI σ l with
    | some (k, kvs) => stE i σ fun j => match keyD j with
      | some _ => if kvs.length < 1000 then pure (.nx (σ.set k (some (.dict (dPut kvs j d), true)))) else fail
      | none => fail
    | none => fail
def sAug (σ : St) (i : Nat) (op : Operator) (e : M D) : M Flow := match σ[i]? with
  | some (some (.int a, _)) => stE e σ fun d => match d with
    | .int b => match augI op a b with
      | some c => nx1 (some (σ.set i (some (.int c, false))))
      | none => fail
    | _ => fail
  | _ => fail
def sAugS (σ : St) (l : Nat) (i : M D) (op : Operator) (e : M D) : M Flow := match ownI σ l with
  | some (k, ds) => stE i σ fun j => match j with
    | .int j => match L2.ixN ds.length j with
      | some n => match ds[n]? with
        | some (.int a) => stE e σ fun d => match d with
          | .int b => match augI op a b with
            | some c => pure (.nx (σ.set k (some (.list (ds.set n (.int c)), true))))
            | none => fail
          | _ => fail
        | _ => fail
      | none => fail
    | _ => fail
  | none => fail
def sApp (σ : St) (l : Nat) (e : M D) : M Flow := match ownI σ l with
  | some (k, ds) => stE e σ fun d => if ds.length < sline then pure (.nx (σ.set k (some (.list (ds ++ [d]), true)))) else fail
  | none => fail
def sExt (σ : St) (l : Nat) (e : M D) : M Flow := match ownI σ l with
  | some (k, ds) => stE e σ fun d => match d with
    | .list es => if ds.length + es.length ≤ sline then pure (.nx (σ.set k (some (.list (ds ++ es), true)))) else fail
    | _ => fail
  | none => fail
/-- x = l.pop(), x = l.pop(e) -/
def sPop (σ : St) (x l : Nat) : M Flow := match ownI σ l with
  | some (i, ds) => match ds.getLast? with
    | some d => nx1 (some ((σ.set i (some (.list ds.dropLast, true))).set x (some (d, false))))
    | none => fail
  | none => fail
def sPopE (σ : St) (x l : Nat) (e : M D) : M Flow := match ownI σ l with
  | some (i, ds) => stE e σ fun j => match j with
    | .int j => match L2.ixN ds.length j with
      | some k => match ds[k]? with
        | some d => if in62 j = true then nx1 (some ((σ.set i (some (.list (ds.eraseIdx k), true))).set x (some (d, false)))) else fail
        | none => fail
      | none => fail
    | _ => fail
  | none => fail
/-- list(range(..)), tuple(range(..)) -/
def rngS (h : Str) (ms : List (M D)) : M D := do
  let xs ← evsS ms
  let ds ← iterC "range" xs
  if ds.length ≤ sline then pure (if h = ("list" : Str) then .list ds else .tuple ds) else fail
def sPop0 (σ : St) (l : Nat) : M Flow := match ownI σ l with
  | some (i, ds) => if ds.length = 0 then fail else pure (.nx (σ.set i (some (.list ds.dropLast, true))))
  | none => fail
def sExp (σ : St) (m : M D) : M Flow := stE m σ fun _ => pure (.nx σ)
def sRaise (c : Str) (σ : St) : M Flow := pure (.rz ⟨c, []⟩ σ)
def sRaiseF (c m : Str) (σ : St) : M Flow := pure (.rz ⟨c, [("reason", .str m)]⟩ σ)
def sTry (m : M Flow) (k : Flow → M Flow) : M Flow := M.bind m k
def andV : Option D → Option D → Option D
  | some (.bool p), some (.bool q) => some (.bool (p && q))
  | _, _ => none
def catV : Option D → Option D → Option D
  | some (.str p), some (.str q) => if p.length + q.length ≤ sline then some (.str (p ++ q)) else none
  | _, _ => none
def ifV (c a b : Option D) : Option D := match c with
  | some (.bool t) => if t = true then a else b
  | _ => none
def fldV (ini : Str → Bool) (x : Exc) : Option D := if ini x.cls = true then (match x.flds with
    | [(_, .str m)] => some (.str m)
    | _ => none) else none
def consV (a : Option D) (b : Option (List D)) : Option (List D) := match a, b with
    | some d, some ds => some (d :: ds)
    | _, _ => none
abbrev ClauseS := Str × (Nat → Bool) × (Exc → Option D)
def clausesS (x : Exc) (σ' : St) : List ClauseS → M Flow
  | [] => pure (.rz x σ')
  | (c, _, h) :: r => if x.cls = c then (match h x with
      | some d => pure (.ret d false)
      | none => fail) else clausesS x σ' r
def catchM (exc : Str → Bool) (l : List ClauseS) (fl : Flow) : M Flow := match fl with
  | .rz x σ' => if exc x.cls = true ∧ (l.all fun p => p.2.1 σ'.length) = true then clausesS x σ' l else fail
  | .nx σ' => pure (.nx σ')
  | .ret d o => pure (.ret d o)
  | .brk σ' => pure (.brk σ')
  | .ct σ' => pure (.ct σ')
def catchS (exc : Str → Bool) (c : Str) (inn : Nat → Bool) (hv : Str → Option D) (fl : Flow) : M Flow := catchM exc [(c, inn, fun x => hv x.cls)] fl
def sEnd (σ : St) : M Flow := pure (.nx σ)
def startN (n : Nat) (ds : List D) : St := (ds.map fun d => some (d, false)) ++ List.replicate (n - ds.length) none
def runS (fg : Flg) (np n : Nat) (body : St → M Flow) (ds : List D) : M D := if ds.length = np then do
    let fl ← quiet (body (startN n ds))
    endF fg fl
  else fail
end Py

set_option Elab.async false
set_option linter.all false
set_option maxRecDepth 100000
namespace Py
open PySem
/-! The parts by values: what simp does with them. -/
abbrev lisD (xs : List Int) : D := .list (xs.map PyData.int)
abbrev tupD (xs : List Int) : D := .tuple (xs.map PyData.int)
section
variable {α β : Type}
@[simp] theorem pure_bd (a : α) (k : α → M β) : ((pure a : M α) >>= k) = k a := of_eq_true (eq_self _)
@[simp] theorem fail_bd (k : α → M β) : ((fail : M α) >>= k) = fail := of_eq_true (eq_self _)
@[simp] theorem throw_bd (x : Exc) (k : α → M β) : ((throwX x : M α) >>= k) = throwX x := of_eq_true (eq_self _)
theorem assoc_bd {γ : Type} (m : M α) (k : α → M β) (l : β → M γ) : ((m >>= k) >>= l) = (m >>= fun a => k a >>= l) := by
  funext s
  show M.bind (M.bind m k) l s = M.bind m (fun a => M.bind (k a) l) s
  unfold M.bind
  cases m s <;> rfl
theorem ite_bd (c : Prop) [Decidable c] (m n : M α) (k : α → M β) : ((if c then m else n) >>= k) = if c then m >>= k else n >>= k := by
  split <;> rfl
@[simp] theorem quiet_pure (a : α) : quiet (pure a : M α) = pure a := of_eq_true (eq_self _)
@[simp] theorem quiet_fail : quiet (fail : M α) = fail := of_eq_true (eq_self _)
@[simp] theorem quiet_throw (x : Exc) : quiet (throwX x : M α) = fail := of_eq_true (eq_self _)
@[simp] theorem quiet_ite (c : Prop) [Decidable c] (m n : M α) : quiet (if c then m else n) = if c then quiet m else quiet n := by split <;> rfl
/-! runs at a state -/
def Res.bnd : Res α → (α → M β) → Res β
  | .ok a s, k => k a s
  | .exc x s, _ => .exc x s
  | .fail, _ => .fail
@[simp] theorem bnd_ok (a : α) (s : DS) (k : α → M β) : Res.bnd (.ok a s) k = k a s := of_eq_true (eq_self _)
@[simp] theorem bnd_exc (x : Exc) (s : DS) (k : α → M β) : Res.bnd (.exc x s) k = .exc x s := of_eq_true (eq_self _)
@[simp] theorem bnd_fail (k : α → M β) : Res.bnd .fail k = .fail := of_eq_true (eq_self _)
theorem bd_at (m : M α) (k : α → M β) (s : DS) : (m >>= k) s = (m s).bnd k := by
  show M.bind m k s = _
  unfold M.bind Res.bnd
  cases m s <;> rfl
@[simp] theorem pure_at (a : α) (s : DS) : (pure a : M α) s = .ok a s := of_eq_true (eq_self _)
@[simp] theorem fail_at (s : DS) : (fail : M α) s = .fail := of_eq_true (eq_self _)
@[simp] theorem throw_at (x : Exc) (s : DS) : (throwX x : M α) s = .exc x s := of_eq_true (eq_self _)
theorem ite_at (c : Prop) [Decidable c] (m n : M α) (s : DS) : (if c then m else n) s = if c then m s else n s := by split <;> rfl
def Res.stb : Res α → St → (α → M Flow) → Res Flow
  | .ok a s, _, k => k a s
  | .exc x s, σ, _ => .ok (.rz x σ) s
  | .fail, _, _ => .fail
@[simp] theorem stb_ok (a : α) (s : DS) (σ : St) (k : α → M Flow) : Res.stb (.ok a s) σ k = k a s := of_eq_true (eq_self _)
@[simp] theorem stb_exc (x : Exc) (s : DS) (σ : St) (k : α → M Flow) : Res.stb (.exc x s) σ k = .ok (.rz x σ) s := of_eq_true (eq_self _)
@[simp] theorem stb_fail (σ : St) (k : α → M Flow) : Res.stb .fail σ k = .fail := of_eq_true (eq_self _)
theorem stE_at (m : M α) (σ : St) (k : α → M Flow) (s : DS) : stE m σ k s = (m s).stb σ k := by
  unfold stE Res.stb
  cases m s <;> rfl
@[simp] theorem stE_pure (a : α) (σ : St) (k : α → M Flow) : stE (pure a) σ k = k a := of_eq_true (eq_self _)
@[simp] theorem q_stE_fail (σ : St) (k : α → M Flow) : stE (fail : M α) σ k = fail := of_eq_true (eq_self _)
@[simp] theorem stE_throw (x : Exc) (σ : St) (k : α → M Flow) : stE (throwX x : M α) σ k = pure (.rz x σ) := of_eq_true (eq_self _)
def Res.fl : Res Flow → (St → M Flow) → Res Flow
  | .ok (.nx σ) s, k => k σ s
  | .ok f s, _ => .ok f s
  | .exc x s, _ => .exc x s
  | .fail, _ => .fail
@[simp] theorem fl_nx (σ : St) (s : DS) (k : St → M Flow) : Res.fl (.ok (.nx σ) s) k = k σ s := of_eq_true (eq_self _)
@[simp] theorem fl_ret (d : D) (o : Bool) (s : DS) (k : St → M Flow) : Res.fl (.ok (.ret d o) s) k = .ok (.ret d o) s := of_eq_true (eq_self _)
@[simp] theorem fl_brk (σ : St) (s : DS) (k : St → M Flow) : Res.fl (.ok (.brk σ) s) k = .ok (.brk σ) s := of_eq_true (eq_self _)
@[simp] theorem fl_ct (σ : St) (s : DS) (k : St → M Flow) : Res.fl (.ok (.ct σ) s) k = .ok (.ct σ) s := of_eq_true (eq_self _)
@[simp] theorem fl_rz (x : Exc) (σ : St) (s : DS) (k : St → M Flow) : Res.fl (.ok (.rz x σ) s) k = .ok (.rz x σ) s := of_eq_true (eq_self _)
@[simp] theorem fl_fail (k : St → M Flow) : Res.fl .fail k = .fail := of_eq_true (eq_self _)
@[simp] theorem fl_exc (x : Exc) (s : DS) (k : St → M Flow) : Res.fl (.exc x s) k = .exc x s := of_eq_true (eq_self _)
theorem thenF_at (m : M Flow) (k : St → M Flow) (s : DS) : thenF m k s = (m s).fl k := by
  unfold thenF
  rw [bd_at]
  unfold Res.fl Res.bnd
  cases m s with
  | ok f s' => cases f <;> rfl
  | exc => rfl
  | fail => rfl
@[simp] theorem thenF_nx (σ : St) (k : St → M Flow) : thenF (pure (.nx σ)) k = k σ := of_eq_true (eq_self _)
@[simp] theorem thenF_ret (d : D) (o : Bool) (k : St → M Flow) : thenF (pure (.ret d o)) k = pure (.ret d o) := of_eq_true (eq_self _)
@[simp] theorem thenF_brk (σ : St) (k : St → M Flow) : thenF (pure (.brk σ)) k = pure (.brk σ) := of_eq_true (eq_self _)
@[simp] theorem thenF_ct (σ : St) (k : St → M Flow) : thenF (pure (.ct σ)) k = pure (.ct σ) := of_eq_true (eq_self _)
@[simp] theorem thenF_rz (x : Exc) (σ : St) (k : St → M Flow) : thenF (pure (.rz x σ)) k = pure (.rz x σ) := of_eq_true (eq_self _)
@[simp] theorem thenF_fail (k : St → M Flow) : thenF fail k = fail := of_eq_true (eq_self _)
theorem thenF_ite (c : Prop) [Decidable c] (m n : M Flow) (k : St → M Flow) : thenF (if c then m else n) k = if c then thenF m k else thenF n k := by split <;> rfl
theorem stE_ite (c : Prop) [Decidable c] (m n : M α) (σ : St) (k : α → M Flow) : stE (if c then m else n) σ k = if c then stE m σ k else stE n σ k := by split <;> rfl
theorem ite_pure (c : Prop) [Decidable c] (a b : α) : (if c then (pure a : M α) else pure b) = pure (if c then a else b) := by split <;> rfl
theorem ite_dbool (c : Prop) [Decidable c] (a b : Bool) : (if c then PyData.bool a else PyData.bool b) = PyData.bool (if c then a else b) := by split <;> rfl
theorem ite_dint (c : Prop) [Decidable c] (a b : Int) : (if c then PyData.int a else PyData.int b) = PyData.int (if c then a else b) := by split <;> rfl
end
/-! slots -/
def thaw : Sl → Sl
  | some (d, _) => some (d, false)
  | none => none
@[simp] theorem thaw_some (d : D) (o : Bool) : thaw (some (d, o)) = some (d, false) := of_eq_true (eq_self _)
@[simp] theorem thaw_none : thaw none = none := of_eq_true (eq_self _)
@[simp] theorem thaw_thaw (x : Sl) : thaw (thaw x) = thaw x := by cases x <;> rfl
def thawAt : Nat → St → St
  | _, [] => []
  | 0, x :: σ => thaw x :: σ
  | n + 1, x :: σ => x :: thawAt n σ
@[simp] theorem thawAt_nil (n : Nat) : thawAt n [] = [] := by cases n <;> rfl
@[simp] theorem thawAt_zero (x : Sl) (σ : St) : thawAt 0 (x :: σ) = thaw x :: σ := of_eq_true (eq_self _)
@[simp] theorem thawAt_succ (n : Nat) (x : Sl) (σ : St) : thawAt (n + 1) (x :: σ) = x :: thawAt n σ := of_eq_true (eq_self _)
theorem thawAt_set : ∀ (σ : St) (i : Nat) (d : D) (o : Bool), σ[i]? = some (some (d, o)) → σ.set i (some (d, false)) = thawAt i σ
  | [], i, d, o, h => by simp at h
  | x :: σ, 0, d, o, h => by
    simp at h
    subst h
    rfl
  | x :: σ, n + 1, d, o, h => by
    simp at h
    simp [thawAt_set σ n d o h]
theorem thawAt_id : ∀ (σ : St) (i : Nat), (∀ d o, σ[i]? ≠ some (some (d, o))) → thawAt i σ = σ
  | [], i, h => by simp
  | x :: σ, 0, h => by
    cases x with
    | none => rfl
    | some p => exact absurd rfl (h p.1 p.2)
  | x :: σ, n + 1, h => by
    simp
    exact thawAt_id σ n fun d o e => h d o (by simpa using e)
@[simp] theorem frz_nil (σ : St) : frz σ [] = σ := by cases σ <;> rfl
@[simp] theorem frz_cons (σ : St) (i : Nat) (is : List Nat) : frz σ (i :: is) = frz (thawAt i σ) is := by
  rw [frz.eq_def]
  simp only
  split
  · rename_i d o h
    rw [thawAt_set σ i d o h]
  · rename_i h
    rw [thawAt_id σ i fun d o e => h d o e]
@[simp] theorem wipe_nil (σ : St) : wipe σ [] = σ := of_eq_true (eq_self _)
@[simp] theorem wipe_cons (σ : St) (i : Nat) (is : List Nat) : wipe σ (i :: is) = (wipe σ is).set i none := of_eq_true (eq_self _)
theorem rd_def (σ : St) (i : Nat) : rd σ i = match σ[i]? with
  | some (some (d, _)) => pure d
  | _ => fail := by
  unfold rd
  split <;> simp_all
@[simp] theorem rd_zero (d : D) (o : Bool) (σ : St) : rd (some (d, o) :: σ) 0 = pure d := by simp [rd_def]
@[simp] theorem rd_succ (x : Sl) (n : Nat) (σ : St) : rd (x :: σ) (n + 1) = rd σ n := by simp [rd_def]
@[simp] theorem rdV_zero (d : D) (σ : St) : rdV (some (d, false) :: σ) 0 = pure d := by simp [rdV]
@[simp] theorem rdV_succ (x : Sl) (n : Nat) (σ : St) : rdV (x :: σ) (n + 1) = rdV σ n := by simp [rdV]
theorem ownI_some (σ : St) (i : Nat) (ds : List D) (h : σ[i]? = some (some (.list ds, true))) : ownI σ i = some (i, ds) := by
  unfold ownI
  rw [h]
theorem ownI_none (σ : St) (i : Nat) (d : D) (h : σ[i]? = some (some (d, false))) : ownI σ i = none := by
  unfold ownI
  rw [h]
  cases d <;> rfl
/-! expressions -/
@[simp] theorem evsS_nil : evsS [] = pure [] := of_eq_true (eq_self _)
@[simp] theorem evsS_pure (d : D) (ms : List (M D)) : evsS (pure d :: ms) = (do let ds ← evsS ms; pure (d :: ds)) := of_eq_true (eq_self _)
@[simp] theorem tstS_bool (b : Bool) : tstS (pure (.bool b)) = pure b := of_eq_true (eq_self _)
@[simp] theorem tstS_fail : tstS fail = fail := of_eq_true (eq_self _)
@[simp] theorem andS_one (m : M D) : andS [m] = m := of_eq_true (eq_self _)
@[simp] theorem andS_two (b : Bool) (m : M D) (ms : List (M D)) : andS (pure (.bool b) :: m :: ms) = if b = true then andS (m :: ms) else pure (.bool false) := of_eq_true (eq_self _)
@[simp] theorem orS_one (m : M D) : orS [m] = m := of_eq_true (eq_self _)
@[simp] theorem orS_two (b : Bool) (m : M D) (ms : List (M D)) : orS (pure (.bool b) :: m :: ms) = if b = true then pure (.bool true) else orS (m :: ms) := of_eq_true (eq_self _)
@[simp] theorem ifeS_pure (b : Bool) (m n : M D) : ifeS (pure (.bool b)) m n = if b = true then m else n := of_eq_true (eq_self _)
@[simp] theorem binS_pure (op : Operator) (a b : D) : binS op (pure a) (pure b) = binop op a b := of_eq_true (eq_self _)
@[simp] theorem negS_int (i : Int) : negS (pure (.int i)) = pure (.int (-i)) := of_eq_true (eq_self _)
@[simp] theorem notS_bool (b : Bool) : notS (pure (.bool b)) = pure (.bool (!b)) := of_eq_true (eq_self _)
@[simp] theorem ixS_pure (a i : D) : ixS (pure a) (pure i) = getD' a i := of_eq_true (eq_self _)
@[simp] theorem optS_none : optS none = pure none := of_eq_true (eq_self _)
@[simp] theorem optS_int (i : Int) : optS (some (pure (.int i))) = pure (some i) := of_eq_true (eq_self _)
@[simp] theorem slS_pure (a : D) (lo hi : Option (M D)) : slS (pure a) lo hi = (do let l ← optS lo; let h ← optS hi; getS a l h) := of_eq_true (eq_self _)
@[simp] theorem cmp1_pure (a b : D) (op : CmpOp) : cmp1 (pure a) (pure b) op = (do let c ← cmpop op a b; pure (.bool c)) := of_eq_true (eq_self _)
@[simp] theorem cmp2_pure (a b c : D) (op op' : CmpOp) : cmp2 (pure a) (pure b) (pure c) op op' = (do let t ← cmpop op a b; if t = true then do let u ← cmpop op' b c; pure (.bool u) else pure (.bool false)) := of_eq_true (eq_self _)
@[simp] theorem dataI_list (ds : List D) : dataI (pure (.list ds)) = pure ds := of_eq_true (eq_self _)
@[simp] theorem dataI_tuple (ds : List D) : dataI (pure (.tuple ds)) = pure ds := of_eq_true (eq_self _)
@[simp] theorem binop_add (i j : Int) : binop .Add (.int i) (.int j) = pure (.int (i + j)) := of_eq_true (eq_self _)
@[simp] theorem binop_sub (i j : Int) : binop .Sub (.int i) (.int j) = pure (.int (i - j)) := of_eq_true (eq_self _)
theorem binop_mul {i j : Int} (h : i.natAbs.log2 + j.natAbs.log2 < 1000000) : binop .Mult (.int i) (.int j) = pure (.int (i * j)) := if_pos h
theorem binop_div {i j : Int} (h : 0 < j) (h' : j.natAbs.log2 < 9000) : binop .FloorDiv (.int i) (.int j) = pure (.int (i / j)) := if_pos ⟨h, h'⟩
theorem binop_mod {i j : Int} (h : 0 < j) : binop .Mod (.int i) (.int j) = pure (.int (i % j)) := if_pos h
theorem binop_addT {a b : List D} (h : a.length + b.length ≤ sline) : binop .Add (.tuple a) (.tuple b) = pure (.tuple (a ++ b)) := if_pos h
theorem binop_addL {a b : List D} (h : a.length + b.length ≤ sline) : binop .Add (.list a) (.list b) = pure (.list (a ++ b)) := if_pos h
@[simp] theorem cmpop_lt (i j : Int) : cmpop .Lt (.int i) (.int j) = pure (decide (i < j)) := of_eq_true (eq_self _)
@[simp] theorem cmpop_le (i j : Int) : cmpop .LtE (.int i) (.int j) = pure (decide (i ≤ j)) := of_eq_true (eq_self _)
@[simp] theorem cmpop_gt (i j : Int) : cmpop .Gt (.int i) (.int j) = pure (decide (j < i)) := of_eq_true (eq_self _)
@[simp] theorem cmpop_ge (i j : Int) : cmpop .GtE (.int i) (.int j) = pure (decide (j ≤ i)) := of_eq_true (eq_self _)
@[simp] theorem cmpop_eq (x y : D) : cmpop .Eq x y = eqD x y := of_eq_true (eq_self _)
@[simp] theorem cmpop_ne (x y : D) : cmpop .NotEq x y = (do let b ← eqD x y; pure (!b)) := of_eq_true (eq_self _)
@[simp] theorem cmpop_in (x y : D) : cmpop .In x y = inD x y := of_eq_true (eq_self _)
@[simp] theorem cmpop_nin (x y : D) : cmpop .NotIn x y = (do let b ← inD x y; pure (!b)) := of_eq_true (eq_self _)
@[simp] theorem eqD_int (a b : Int) : eqD (.int a) (.int b) = pure (decide (a = b)) := by
  have h1 : PyData.eqv (.int a) (.int b) = decide (a = b) := by
    unfold PyData.eqv
    first
      | rfl
      | (by_cases h : a = b <;> simp [h])
  unfold eqD
  rw [if_pos ⟨rfl, rfl⟩, h1]
/-! built-ins -/
@[simp] theorem bi_lenL (ds : List D) : bi "len" [.list ds] = pure (.int ds.length) := of_eq_true (eq_self _)
@[simp] theorem bi_lenT (ds : List D) : bi "len" [.tuple ds] = pure (.int ds.length) := of_eq_true (eq_self _)
@[simp] theorem bi_abs (a : Int) : bi "abs" [.int a] = pure (.int (if a < 0 then -a else a)) := of_eq_true (eq_self _)
@[simp] theorem bi_int (a : Int) : bi "int" [.int a] = pure (.int a) := of_eq_true (eq_self _)
@[simp] theorem bi_listL (ds : List D) : bi "list" [.list ds] = pure (.list ds) := of_eq_true (eq_self _)
@[simp] theorem bi_listT (ds : List D) : bi "list" [.tuple ds] = pure (.list ds) := of_eq_true (eq_self _)
@[simp] theorem bi_tupleL (ds : List D) : bi "tuple" [.list ds] = pure (.tuple ds) := of_eq_true (eq_self _)
@[simp] theorem bi_tupleT (ds : List D) : bi "tuple" [.tuple ds] = pure (.tuple ds) := of_eq_true (eq_self _)
@[simp] theorem bi_max2 (i j : Int) : bi "max" [.int i, .int j] = pure (.int (max i j)) := by
  show pure _ = pure _
  congr 2
  omega
@[simp] theorem bi_min2 (i j : Int) : bi "min" [.int i, .int j] = pure (.int (min i j)) := by
  show pure _ = pure _
  congr 2
  omega
@[simp] theorem intsOf_map : ∀ xs : List Int, intsOf (xs.map PyData.int) = some xs
  | [] => rfl
  | x :: xs => by simp [intsOf, intsOf_map xs]
@[simp] theorem boolsOf_map : ∀ xs : List Bool, boolsOf (xs.map PyData.bool) = some xs
  | [] => rfl
  | x :: xs => by simp [boolsOf, boolsOf_map xs]
theorem boolsOf_map' {α : Type} (p : α → Bool) : ∀ xs : List α, boolsOf (xs.map fun x => .bool (p x)) = some (xs.map p)
  | [] => rfl
  | x :: xs => by simp [boolsOf, boolsOf_map' p xs]
theorem intsOf_map' {α : Type} (p : α → Int) : ∀ xs : List α, intsOf (xs.map fun x => .int (p x)) = some (xs.map p)
  | [] => rfl
  | x :: xs => by simp [intsOf, intsOf_map' p xs]
theorem bi_sumL {ds : List D} {ns : List Int} (h : intsOf ds = some ns) : bi "sum" [.list ds] = pure (.int ns.sum) := by
  show (match (some ds : Option (List D)).bind intsOf with | some ns => (pure (.int ns.sum) : M D) | none => fail) = _
  simp [h]
theorem bi_sumT {ds : List D} {ns : List Int} (h : intsOf ds = some ns) : bi "sum" [.tuple ds] = pure (.int ns.sum) := by
  show (match (some ds : Option (List D)).bind intsOf with | some ns => (pure (.int ns.sum) : M D) | none => fail) = _
  simp [h]
@[simp] theorem bi_sum_ints (xs : List Int) : bi "sum" [.list (xs.map PyData.int)] = pure (.int xs.sum) := bi_sumL (intsOf_map xs)
@[simp] theorem bi_sum_tup (xs : List Int) : bi "sum" [.tuple (xs.map PyData.int)] = pure (.int xs.sum) := bi_sumT (intsOf_map xs)
theorem bi_all {ds : List D} {bs : List Bool} (h : boolsOf ds = some bs) : bi "all" [.list ds] = pure (.bool (bs.all id)) := by
  show (match boolsOf ds with | some bs => (pure (.bool (bs.all id)) : M D) | none => fail) = _
  simp [h]
theorem bi_any {ds : List D} {bs : List Bool} (h : boolsOf ds = some bs) : bi "any" [.list ds] = pure (.bool (bs.any id)) := by
  show (match boolsOf ds with | some bs => (pure (.bool (bs.any id)) : M D) | none => fail) = _
  simp [h]
@[simp] theorem bi_all_map {α : Type} (p : α → Bool) (xs : List α) : bi "all" [.list (xs.map fun x => .bool (p x))] = pure (.bool (xs.all p)) := by
  rw [bi_all (boolsOf_map' p xs)]
  simp [List.all_map, Function.comp_def]
@[simp] theorem bi_any_map {α : Type} (p : α → Bool) (xs : List α) : bi "any" [.list (xs.map fun x => .bool (p x))] = pure (.bool (xs.any p)) := by
  rw [bi_any (boolsOf_map' p xs)]
  simp [List.any_map, Function.comp_def]
theorem bi_sorted (xs : List Int) : bi "sorted" [.list (xs.map PyData.int)] = pure (.list ((sortI xs).map PyData.int)) := by
  show (match intsOf (xs.map PyData.int) with | some ns => (pure (PyData.list ((sortI ns).map PyData.int)) : M D) | none => srtD (xs.map PyData.int)) = _
  simp
/-! walks -/
theorem iterC_range1 {n : Int} (h : in62 n = true) : iterC "range" [.int n] = pure (rangeD 0 n.toNat) := by
  show (if in62 n = true then pure (rangeD 0 n.toNat) else fail) = _
  rw [if_pos h]
theorem iterC_range2 {a b : Int} (h : in62 a = true) (h' : in62 b = true) : iterC "range" [.int a, .int b] = pure (rangeD a (b - a).toNat) := by
  show (if in62 a = true ∧ in62 b = true then pure (rangeD a (b - a).toNat) else fail) = _
  rw [if_pos ⟨h, h'⟩]
@[simp] theorem iterC_zipL (ds es : List D) : iterC "zip" [.list ds, .list es] = pure (zipD ds es) := of_eq_true (eq_self _)
@[simp] theorem iterC_zipT (ds es : List D) : iterC "zip" [.tuple ds, .tuple es] = pure (zipD ds es) := of_eq_true (eq_self _)
@[simp] theorem iterC_enumL (ds : List D) : iterC "enumerate" [.list ds] = pure (enumD 0 ds) := of_eq_true (eq_self _)
@[simp] theorem iterC_enumT (ds : List D) : iterC "enumerate" [.tuple ds] = pure (enumD 0 ds) := of_eq_true (eq_self _)
theorem zipD_map {α β : Type} (f : α → D) (g : β → D) : ∀ (xs : List α) (ys : List β), zipD (xs.map f) (ys.map g) = (xs.zip ys).map fun p => .tuple [f p.1, g p.2]
  | [], _ => rfl
  | _ :: _, [] => rfl
  | x :: xs, y :: ys => by simp [zipD, zipD_map f g xs ys]
/-- a comprehension by what it makes of each item -/
theorem compL_map {α : Type} {bind : D → Option St} {f : St → M Bool} {g : St → M D} (enc : α → D) (h : α → D) (p : α → Bool) : ∀ (xs : List α),
    (∀ x ∈ xs, ∃ σ, bind (enc x) = some σ ∧ f σ = pure (p x) ∧ (p x = true → g σ = pure (h x))) → compL bind f g (xs.map enc) = pure ((xs.filter p).map h)
  | [], _ => rfl
  | x :: xs, H => by
    obtain ⟨σ, h1, h2, h3⟩ := H x (List.mem_cons_self ..)
    have ih := compL_map enc h p xs fun y hy => H y (List.mem_cons_of_mem _ hy)
    rw [List.map_cons]
    unfold compL
    rw [h1]
    show ((pure σ : M St) >>= _) = _
    rw [pure_bd, h2, pure_bd, ih]
    by_cases hp : p x = true
    · rw [if_pos hp, h3 hp, List.filter_cons_of_pos hp]; rfl
    · rw [if_neg hp, List.filter_cons_of_neg hp]
theorem compS_filter {α : Type} {items : M (List D)} {bind : D → Option St} {f : St → M Bool} {g : St → M D} (xs : List α) (enc : α → D) (h : α → D) (p : α → Bool)
    (hi : items = pure (xs.map enc)) (hl : xs.length ≤ sline) (H : ∀ x ∈ xs, ∃ σ, bind (enc x) = some σ ∧ f σ = pure (p x) ∧ (p x = true → g σ = pure (h x))) :
    compS items bind f g = pure (.list ((xs.filter p).map h)) := by
  unfold compS
  rw [hi, pure_bd, compL_map enc h p xs H, quiet_pure, pure_bd, if_pos]
  rw [List.length_map]
  exact Nat.le_trans (List.length_filter_le ..) hl
theorem compS_map {α : Type} {items : M (List D)} {bind : D → Option St} {g : St → M D} (xs : List α) (enc : α → D) (h : α → D)
    (hi : items = pure (xs.map enc)) (hl : xs.length ≤ sline) (H : ∀ x ∈ xs, ∃ σ, bind (enc x) = some σ ∧ g σ = pure (h x)) :
    compS items bind (fun _ => pure true) g = pure (.list (xs.map h)) := by
  have e := compS_filter (bind := bind) (f := fun _ => pure true) (g := g) xs enc h (fun _ => true) hi hl fun x hx => ?_
  · rw [e, List.filter_eq_self.mpr fun _ _ => rfl]
  · obtain ⟨σ, h1, h2⟩ := H x hx
    exact ⟨σ, h1, rfl, fun _ => h2⟩
/-! statements -/
@[simp] theorem sEnd_def (σ : St) : sEnd σ = pure (.nx σ) := of_eq_true (eq_self _)
@[simp] theorem nx1_some (σ : St) : nx1 (some σ) = pure (.nx σ) := of_eq_true (eq_self _)
@[simp] theorem sRaise_def (c : Str) (σ : St) : sRaise c σ = pure (.rz ⟨c, []⟩ σ) := of_eq_true (eq_self _)
@[simp] theorem sRet_pure (σ : St) (d : D) (fr : Bool) : sRet σ (pure d) fr = pure (.ret d (fr && isL d)) := of_eq_true (eq_self _)
@[simp] theorem sAsg_pure (σ : St) (d : D) (i : Nat) (fr : Bool) : sAsg σ (pure d) i fr = pure (.nx (σ.set i (some (d, fr && isL d)))) := of_eq_true (eq_self _)
@[simp] theorem sIf_pure (σ : St) (b : Bool) (m n : M Flow) : sIf σ (pure (.bool b)) m n = if b = true then m else n := of_eq_true (eq_self _)
@[simp] theorem sExp_pure (σ : St) (d : D) : sExp σ (pure d) = pure (.nx σ) := of_eq_true (eq_self _)
@[simp] theorem sExp_throw (σ : St) (x : Exc) : sExp σ (throwX x) = pure (.rz x σ) := of_eq_true (eq_self _)
@[simp] theorem sPar_def (σ : St) (ms : List (M D)) (is : List Nat) : sPar σ ms is = stE (evsS ms) σ fun ds => nx1 (setAll σ is ds) := of_eq_true (eq_self _)
@[simp] theorem setAll_nil (σ : St) : setAll σ [] [] = some σ := of_eq_true (eq_self _)
@[simp] theorem setAll_cons (σ : St) (i : Nat) (is : List Nat) (d : D) (ds : List D) : setAll σ (i :: is) (d :: ds) = setAll (σ.set i (some (d, false))) is ds := of_eq_true (eq_self _)
@[simp] theorem bindG_one (i : Nat) (σ : St) (d : D) : bindG (.one i) σ d = some (σ.set i (some (d, false))) := of_eq_true (eq_self _)
@[simp] theorem bindG_manyT (is : List Nat) (σ : St) (ds : List D) : bindG (.many is) σ (.tuple ds) = setAll σ is ds := of_eq_true (eq_self _)
@[simp] theorem bindG_manyL (is : List Nat) (σ : St) (ds : List D) : bindG (.many is) σ (.list ds) = setAll σ is ds := of_eq_true (eq_self _)
@[simp] theorem sTup_pure (σ : St) (d : D) (t : Tg) : sTup σ (pure d) t = nx1 (bindG t σ d) := of_eq_true (eq_self _)
@[simp] theorem sFor_pure (σ : St) (ds : List D) (t : Tg) (b : St → M Flow) : sFor σ (pure ds) t b = forL (bindG t) b ds σ := of_eq_true (eq_self _)
@[simp] theorem isL_int (i : Int) : isL (.int i) = false := of_eq_true (eq_self _)
@[simp] theorem isL_bool (i : Bool) : isL (.bool i) = false := of_eq_true (eq_self _)
@[simp] theorem isL_tuple (i : List D) : isL (.tuple i) = false := of_eq_true (eq_self _)
@[simp] theorem isL_list (i : List D) : isL (.list i) = true := of_eq_true (eq_self _)
@[simp] theorem isL_none : isL .none = false := of_eq_true (eq_self _)
@[simp] theorem isL_str (i : Str) : isL (.str i) = false := of_eq_true (eq_self _)
@[simp] theorem isL_dict (i : List (D × D)) : isL (.dict i) = dOk i := of_eq_true (eq_self _)
@[simp] theorem endF_ret (d : D) (o : Bool) : endF ⟨false, false⟩ (.ret d o) = pure d := by
  show (if (false = true ∧ o = false) ∨ (false = true ∧ flat d = false) then fail else pure d) = _
  simp
@[simp] theorem endF_nx (σ : St) : endF ⟨false, false⟩ (.nx σ) = pure .none := of_eq_true (eq_self _)
@[simp] theorem endF_rz (x : Exc) (σ : St) (fg : Flg) : endF fg (.rz x σ) = throwX x := of_eq_true (eq_self _)
@[simp] theorem runS_1 (fg : Flg) (n : Nat) (body : St → M Flow) (a0 : D) : runS fg 1 n body [a0] = (do let fl ← quiet (body (startN n [a0])); endF fg fl) := if_pos rfl
@[simp] theorem runS_2 (fg : Flg) (n : Nat) (body : St → M Flow) (a0 a1 : D) : runS fg 2 n body [a0, a1] = (do let fl ← quiet (body (startN n [a0, a1])); endF fg fl) := if_pos rfl
@[simp] theorem runS_3 (fg : Flg) (n : Nat) (body : St → M Flow) (a0 a1 a2 : D) : runS fg 3 n body [a0, a1, a2] = (do let fl ← quiet (body (startN n [a0, a1, a2])); endF fg fl) := if_pos rfl
@[simp] theorem runS_4 (fg : Flg) (n : Nat) (body : St → M Flow) (a0 a1 a2 a3 : D) : runS fg 4 n body [a0, a1, a2, a3] = (do let fl ← quiet (body (startN n [a0, a1, a2, a3])); endF fg fl) := if_pos rfl
@[simp] theorem runS_5 (fg : Flg) (n : Nat) (body : St → M Flow) (a0 a1 a2 a3 a4 : D) : runS fg 5 n body [a0, a1, a2, a3, a4] = (do let fl ← quiet (body (startN n [a0, a1, a2, a3, a4])); endF fg fl) := if_pos rfl
@[simp] theorem runS_6 (fg : Flg) (n : Nat) (body : St → M Flow) (a0 a1 a2 a3 a4 a5 : D) : runS fg 6 n body [a0, a1, a2, a3, a4, a5] = (do let fl ← quiet (body (startN n [a0, a1, a2, a3, a4, a5])); endF fg fl) := if_pos rfl
@[simp] theorem runS_0 (fg : Flg) (n : Nat) (body : St → M Flow) : runS fg 0 n body [] = (do let fl ← quiet (body (startN n [])); endF fg fl) := if_pos rfl
end Py

set_option Elab.async false
set_option linter.all false
set_option maxRecDepth 100000
namespace Py
open PySem
theorem evsS_cons (m : M D) (ms : List (M D)) : evsS (m :: ms) = (do let d ← m; let ds ← evsS ms; pure (d :: ds)) := rfl
/-! numbers that are drawn -/
def OkS (s : DS) : Prop := -1 ≤ s.at_ ∧ 0 ≤ s.seed ∧ s.seed < 2147483647
def tv (n : Int) (s : DS) : Int := (nextS s).cur % n
def ts (n : Int) (s : DS) : DS := { nextS s with cur := (nextS s).cur / n }
theorem OkS_ts {n : Int} {s : DS} (h : OkS s) : OkS (ts n s) := by
  obtain ⟨h1, h2, h3⟩ := h
  unfold ts nextS OkS
  split
  · split
    · exact ⟨by simp; omega, h2, h3⟩
    · exact ⟨by simp; omega, by simp; omega, by simp; omega⟩
  · exact ⟨h1, h2, h3⟩
theorem tv_lo {n : Int} {s : DS} (h : 0 < n) : 0 ≤ tv n s := Int.emod_nonneg _ (by omega)
theorem tv_hi {n : Int} {s : DS} (h : 0 < n) : tv n s < n := Int.emod_lt_of_pos _ h
theorem log2_small {n : Int} (h0 : 0 < n) (h : n < 2 ^ 64) : n.natAbs.log2 < 9000 := by
  have h1 : n.natAbs < 2 ^ 64 := by omega
  have := (Nat.log2_lt (by omega : n.natAbs ≠ 0)).mpr h1
  omega
theorem take_at {n : Int} {s : DS} (hs : OkS s) (h0 : 0 < n) (h1 : n < 2 ^ 64) : takeP [tok, .int n] s = .ok (.int (tv n s)) (ts n s) := by
  show take n s = _
  unfold take
  rw [if_pos ⟨h0, log2_small h0 h1, hs.1, hs.2.1, hs.2.2⟩]
  rfl
theorem take_callF {call : Str → List D → M D} {n : Int} {s : DS} (ht : call "_law_take" = takeP) (hs : OkS s) (h0 : 0 < n) (h1 : n < 2 ^ 64) :
    callF call "_law_take" [pure tok, pure (.int n)] s = .ok (.int (tv n s)) (ts n s) := by
  unfold callF
  rw [ht]
  simp only [evsS_pure, evsS_nil, pure_bd]
  rw [bd_at, take_at hs h0 h1]
  rfl
def callT (call : Str → List D → M D) (f : Str) (xs : List D) : M D := do
  let d ← call f xs
  if flat d = true then pure d else fail
theorem callF_eq (call : Str → List D → M D) (f : Str) (ms : List (M D)) : callF call f ms = (evsS ms >>= callT call f) := rfl
theorem take_T {call : Str → List D → M D} {n : Int} {s : DS} (ht : call "_law_take" = takeP) (hs : OkS s) (h0 : 0 < n) (h1 : n < 2 ^ 64) :
    callT call "_law_take" [tok, .int n] s = .ok (.int (tv n s)) (ts n s) := by
  unfold callT
  rw [ht, bd_at, take_at hs h0 h1]
  rfl
/-- what a run comes to -/
def Res.sat {α : Type} : Res α → (α → DS → Prop) → Prop
  | .ok a s, Q => Q a s
  | .exc _ _, _ => False
  | .fail, _ => False
section
variable {α β : Type}
@[simp] theorem sat_ok (a : α) (s : DS) (Q : α → DS → Prop) : Res.sat (.ok a s) Q = Q a s := of_eq_true (eq_self _)
theorem Res.sat.ex {r : Res α} {Q : α → DS → Prop} (h : r.sat Q) : ∃ a s, r = .ok a s ∧ Q a s := by
  cases r with
  | ok a s => exact ⟨a, s, rfl, h⟩
  | exc => exact h.elim
  | fail => exact h.elim
theorem Res.sat.mono {r : Res α} {Q Q' : α → DS → Prop} (h : r.sat Q) (hq : ∀ a s, Q a s → Q' a s) : r.sat Q' := by
  obtain ⟨a, s, rfl, h⟩ := h.ex
  exact hq _ _ h
theorem Res.sat.bnd {r : Res α} {k : α → M β} {Q : β → DS → Prop} (h : r.sat fun a s => (k a s).sat Q) : (r.bnd k).sat Q := by
  obtain ⟨a, s, rfl, h⟩ := h.ex
  exact h
theorem Res.sat.stb {r : Res α} {σ : St} {k : α → M Flow} {Q : Flow → DS → Prop} (h : r.sat fun a s => (k a s).sat Q) : (r.stb σ k).sat Q := by
  obtain ⟨a, s, rfl, h⟩ := h.ex
  exact h
/-- goes on -/
def NC (P : St → DS → Prop) : Flow → DS → Prop
  | .nx σ, s => P σ s
  | .ct σ, s => P σ s
  | _, _ => False
@[simp] theorem NC_nx (P : St → DS → Prop) (σ : St) (s : DS) : NC P (.nx σ) s = P σ s := of_eq_true (eq_self _)
@[simp] theorem NC_ct (P : St → DS → Prop) (σ : St) (s : DS) : NC P (.ct σ) s = P σ s := of_eq_true (eq_self _)
def NX (P : St → DS → Prop) : Flow → DS → Prop
  | .nx σ, s => P σ s
  | _, _ => False
@[simp] theorem NX_nx (P : St → DS → Prop) (σ : St) (s : DS) : NX P (.nx σ) s = P σ s := of_eq_true (eq_self _)
theorem Res.sat.fl {r : Res Flow} {k : St → M Flow} {P : St → DS → Prop} {Q : Flow → DS → Prop} (h : r.sat (NX P)) (hk : ∀ σ s, P σ s → (k σ s).sat Q) : (r.fl k).sat Q := by
  obtain ⟨a, s, rfl, h⟩ := h.ex
  cases a with
  | nx σ => exact hk σ s h
  | _ => exact h.elim
end
/-- a loop by what holds before each turn -/
theorem forL_at {α : Type} (enc : α → D) {bind : St → D → Option St} {b : St → M Flow} (xs : List α) (I : Nat → St → DS → Prop)
    (H : ∀ k x σ s, xs[k]? = some x → I k σ s → ∃ σ1, bind σ (enc x) = some σ1 ∧ (b σ1 s).sat (NC (I (k + 1)))) {σ : St} {s : DS} (h0 : I 0 σ s) :
    (forL bind b (xs.map enc) σ s).sat (NX (I xs.length)) := by
  induction xs generalizing I σ s with
  | nil => exact h0
  | cons x xs ih =>
    obtain ⟨σ1, h1, h2⟩ := H 0 x σ s rfl h0
    obtain ⟨fl, s2, h2, h3⟩ := h2.ex
    rw [List.map_cons]
    unfold forL
    rw [h1]
    simp only
    rw [bd_at, h2]
    cases fl with
    | nx σ2 => exact ih (fun k => I (k + 1)) (fun k y σ s hy hI => H (k + 1) y σ s (by simpa using hy) hI) h3
    | ct σ2 => exact ih (fun k => I (k + 1)) (fun k y σ s hy hI => H (k + 1) y σ s (by simpa using hy) hI) h3
    | _ => exact h3.elim
/-- a comprehension over draws -/
theorem compL_at {α : Type} (enc : α → D) {bind : D → Option St} {g : St → M D} (R : α → D → Prop) : ∀ (xs : List α)
    (_ : ∀ x ∈ xs, ∀ s, OkS s → ∃ σ, bind (enc x) = some σ ∧ (g σ s).sat fun y s' => R x y ∧ OkS s') {s : DS} (_ : OkS s),
    (compL bind (fun _ => pure true) g (xs.map enc) s).sat fun ys s' => ys.length = xs.length ∧ (∀ (i : Nat) x y, xs[i]? = some x → ys[i]? = some y → R x y) ∧ OkS s'
  | [], _, s, hs => ⟨rfl, fun i x y h => by simp at h, hs⟩
  | x :: xs, H, s, hs => by
    obtain ⟨σ, h1, h2⟩ := H x (List.mem_cons_self ..) s hs
    obtain ⟨y, s1, h2, h3, h4⟩ := h2.ex
    obtain ⟨ys, s', h5, h6, h7, h8⟩ := (compL_at enc R xs (fun z hz => H z (List.mem_cons_of_mem _ hz)) h4).ex
    rw [List.map_cons]
    unfold compL
    rw [h1]
    show Res.sat (((pure σ : M St) >>= _) s) _
    rw [pure_bd, pure_bd, if_pos rfl, bd_at, h2, bnd_ok, bd_at, h5]
    refine ⟨by simp [h6], fun i u v hu hv => ?_, h8⟩
    cases i with
    | zero => simp at hu hv; subst hu; subst hv; exact h3
    | succ i => exact h7 i u v (by simpa using hu) (by simpa using hv)
theorem compS_at {α : Type} {items : M (List D)} (enc : α → D) {bind : D → Option St} {g : St → M D} (R : α → D → Prop) (xs : List α)
    (hi : items = pure (xs.map enc)) (hl : xs.length ≤ sline)
    (H : ∀ x ∈ xs, ∀ s, OkS s → ∃ σ, bind (enc x) = some σ ∧ (g σ s).sat fun y s' => R x y ∧ OkS s') {s : DS} (hs : OkS s) :
    (compS items bind (fun _ => pure true) g s).sat fun d s' => ∃ ys, d = .list ys ∧ ys.length = xs.length ∧ (∀ (i : Nat) x y, xs[i]? = some x → ys[i]? = some y → R x y) ∧ OkS s' := by
  obtain ⟨ys, s', h1, h2, h3, h4⟩ := (compL_at enc R xs H hs).ex
  unfold compS
  rw [hi, pure_bd, bd_at]
  have : quiet (compL bind (fun _ => pure true) g (xs.map enc)) s = .ok ys s' := by
    unfold quiet
    rw [h1]
  rw [this, bnd_ok, if_pos (by omega)]
  exact ⟨ys, rfl, h2, h3, h4⟩
def Res.qt {α : Type} : Res α → Res α
  | .ok a s => .ok a s
  | _ => .fail
@[simp] theorem qt_ok {α : Type} (a : α) (s : DS) : Res.qt (.ok a s) = .ok a s := of_eq_true (eq_self _)
theorem quiet_at {α : Type} (m : M α) (s : DS) : quiet m s = (m s).qt := by
  unfold quiet Res.qt
  cases m s <;> rfl
theorem Res.sat.qt {α : Type} {r : Res α} {Q : α → DS → Prop} (h : r.sat Q) : r.qt.sat Q := by
  obtain ⟨a, s, rfl, h⟩ := h.ex
  exact h
/-! sizes -/
def Bt (n : Nat) (i : Int) : Prop := i.natAbs < 2 ^ n
theorem Bt.mono {n m : Nat} {i : Int} (h : Bt n i) (hm : n ≤ m) : Bt m i := Nat.lt_of_lt_of_le h (Nat.pow_le_pow_right (by decide) hm)
theorem Bt.mul {n m : Nat} {i j : Int} (h : Bt n i) (h' : Bt m j) : Bt (n + m) (i * j) := by
  unfold Bt at *
  rw [Int.natAbs_mul, Nat.pow_add]
  exact Nat.mul_lt_mul'' h h'
theorem Bt.add {n : Nat} {i j : Int} (h : Bt n i) (h' : Bt n j) : Bt (n + 1) (i + j) := by
  unfold Bt at *
  rw [Nat.pow_succ]
  omega
theorem Bt.sub {n : Nat} {i j : Int} (h : Bt n i) (h' : Bt n j) : Bt (n + 1) (i - j) := by
  unfold Bt at *
  rw [Nat.pow_succ]
  omega
theorem Bt.neg {n : Nat} {i : Int} (h : Bt n i) : Bt n (-i) := by
  unfold Bt at *
  omega
theorem Bt.log {n : Nat} {i : Int} (h : Bt n i) : i.natAbs.log2 ≤ n := by
  by_cases h0 : i.natAbs = 0
  · rw [h0]; simp
  · exact Nat.le_of_lt ((Nat.log2_lt h0).mpr h)
theorem Bt.of_lt {n : Nat} {i : Int} (h : -(2 ^ n) < i) (h' : i < 2 ^ n) : Bt n i := by
  unfold Bt
  have : ((2 ^ n : Nat) : Int) = 2 ^ n := by simp
  omega
theorem Bt.list {n : Nat} : ∀ (xs : List Int) (k : Nat), xs.length ≤ k → (∀ x ∈ xs, Bt n x) → xs.sum.natAbs ≤ k * 2 ^ n
  | [], k, _, _ => by simp
  | x :: xs, 0, h, _ => by simp at h
  | x :: xs, k + 1, h, H => by
    have ih := Bt.list xs k (by simpa using h) fun y hy => H y (List.mem_cons_of_mem _ hy)
    have h1 : x.natAbs < 2 ^ n := H x (List.mem_cons_self ..)
    rw [List.sum_cons, Nat.add_mul, Nat.one_mul]
    omega
theorem Bt.sum {n m : Nat} {xs : List Int} (hl : xs.length < 2 ^ m) (H : ∀ x ∈ xs, Bt n x) : Bt (n + m) xs.sum := by
  have h := Bt.list xs xs.length (Nat.le_refl _) H
  unfold Bt
  rw [Nat.pow_add]
  have h2 : 0 < 2 ^ n := Nat.two_pow_pos n
  have : xs.length * 2 ^ n < 2 ^ m * 2 ^ n := Nat.mul_lt_mul_of_pos_right hl h2
  rw [Nat.mul_comm (2 ^ n)]
  omega
theorem bmul {n m : Nat} {i j : Int} (h : Bt n i) (h' : Bt m j) (hm : n + m < 1000000 := by omega) : binop .Mult (.int i) (.int j) = pure (.int (i * j)) := binop_mul (by have := h.log; have := h'.log; omega)
theorem bdiv {n : Nat} {i j : Int} (h : 0 < j) (h' : Bt n j) (hm : n < 9000 := by omega) : binop .FloorDiv (.int i) (.int j) = pure (.int (i / j)) := binop_div h (by have := h'.log; omega)
theorem bdivN {n : Nat} {i j : Int} (h : j < 0) (h' : Bt n j) (hm : n < 9000 := by omega) : binop .FloorDiv (.int i) (.int j) = pure (.int (i.fdiv j)) := by
  show (if 0 < j ∧ j.natAbs.log2 < 9000 then _ else _) = _
  rw [if_neg (by omega), if_pos ⟨h, by have := h'.log; omega⟩]
/-! values -/
mutual
/-- no dict within -/
def nod : D → Bool
  | .dict _ => false
  | .tuple ds => nods ds
  | .list ds => nods ds
  | _ => true
def nods : List D → Bool
  | [] => true
  | d :: ds => nod d && nods ds
end
@[simp] theorem nods_nil : nods [] = true := by unfold nods; rfl
@[simp] theorem nods_cons (d : D) (ds : List D) : nods (d :: ds) = (nod d && nods ds) := by rw [nods]
@[simp] theorem nod_tuple (ds : List D) : nod (.tuple ds) = nods ds := by rw [nod]
@[simp] theorem nod_list (ds : List D) : nod (.list ds) = nods ds := by rw [nod]
@[simp] theorem nod_int (i : Int) : nod (.int i) = true := by simp [nod]
@[simp] theorem nod_bool (i : Bool) : nod (.bool i) = true := by simp [nod]
@[simp] theorem nod_str (i : Str) : nod (.str i) = true := by simp [nod]
@[simp] theorem nod_none : nod .none = true := by simp [nod]
@[simp] theorem nods_append : ∀ a b : List D, nods (a ++ b) = (nods a && nods b)
  | [], b => by simp
  | x :: a, b => by simp [nods_append a b, Bool.and_assoc]
theorem nods_all : ∀ ds : List D, nods ds = ds.all nod
  | [] => by simp
  | d :: ds => by simp [nods_all ds]
@[simp] theorem nods_map {α : Type} (f : α → D) (xs : List α) (h : ∀ x, nod (f x) = true) : nods (xs.map f) = true := by
  rw [nods_all, List.all_eq_true]
  intro d hd
  obtain ⟨x, _, rfl⟩ := List.mem_map.mp hd
  exact h x
@[simp] theorem nods_ints (xs : List Int) : nods (xs.map PyData.int) = true := nods_map _ _ fun _ => by simp
@[simp] theorem nods_rep (n : Nat) (d : D) (h : nod d = true) : nods (List.replicate n d) = true := by
  rw [nods_all, List.all_eq_true]
  intro e he
  rw [List.eq_of_mem_replicate he]
  exact h
theorem nods_mem {ds : List D} (h : nods ds = true) {d : D} (hd : d ∈ ds) : nod d = true := by
  rw [nods_all, List.all_eq_true] at h
  exact h d hd
def noD : D → Bool
  | .dict _ => false
  | _ => true
theorem nod_noD {d : D} (h : nod d = true) : noD d = true := by
  cases d with
  | dict => rw [nod] at h; exact h
  | _ => rfl
/-! indices -/
theorem atI_nn {α : Type} {xs : List α} {i : Int} (h : 0 ≤ i) : L2.atI xs i = xs[i.toNat]? := by
  unfold L2.atI L2.ixN
  rw [if_pos h]
  split
  · rfl
  · rw [List.getElem?_eq_none (by omega)]
    rfl
theorem atI_neg1 {α : Type} (xs : List α) : L2.atI xs (-1) = xs.getLast? := by
  unfold L2.atI L2.ixN
  rw [if_neg (by decide), List.getLast?_eq_getElem?]
  split
  · show xs[_]? = _
    congr 1
    omega
  · have : xs.length = 0 := by omega
    simp [List.eq_nil_of_length_eq_zero this]
theorem getT_nat {ds : List D} {i : Nat} {d : D} (h : ds[i]? = some d) : getD' (.tuple ds) (.int i) = pure d := by
  show (match L2.atI ds i with | some d => pure d | none => fail) = _
  rw [atI_nn (by omega), Int.toNat_natCast, h]
theorem getL_nat {ds : List D} {i : Nat} {d : D} (h : ds[i]? = some d) : getD' (.list ds) (.int i) = pure d := by
  show (match L2.atI ds i with | some d => pure d | none => fail) = _
  rw [atI_nn (by omega), Int.toNat_natCast, h]
theorem getT_last {ds : List D} {d : D} (h : ds.getLast? = some d) : getD' (.tuple ds) (.int (-1)) = pure d := by
  show (match L2.atI ds (-1) with | some d => pure d | none => fail) = _
  rw [atI_neg1, h]
theorem getL_last {ds : List D} {d : D} (h : ds.getLast? = some d) : getD' (.list ds) (.int (-1)) = pure d := by
  show (match L2.atI ds (-1) with | some d => pure d | none => fail) = _
  rw [atI_neg1, h]
theorem in62_nat {n : Nat} (h : n < 2 ^ 62) : in62 (n : Int) = true := by
  unfold in62
  simp
  omega
theorem in62_of {n : Int} (h : -(2 ^ 62) ≤ n) (h' : n < 2 ^ 62) : in62 n = true := by
  unfold in62
  simp
  omega
theorem rangeD_eq (lo : Int) (n : Nat) : rangeD lo n = (List.range n).map fun (i : Nat) => PyData.int (lo + (i : Int)) := rfl
theorem ixN_neg1 {n : Nat} (h : 0 < n) : L2.ixN n (-1) = some (n - 1) := by
  unfold L2.ixN
  rw [if_neg (by decide), if_pos (by omega)]
  congr 1
  omega
theorem ixN_nn {n : Nat} {i : Int} (h : 0 ≤ i) (h' : i < n) : L2.ixN n i = some i.toNat := by
  unfold L2.ixN
  rw [if_pos h, if_pos h']
theorem ixN_nat {n i : Nat} (h : i < n) : L2.ixN n (i : Int) = some i := by
  rw [ixN_nn (by omega) (by omega)]
  rfl
theorem snoc_of {α : Type} {xs : List α} (h : 1 ≤ xs.length) : ∃ ys z, xs = ys ++ [z] :=
  ⟨xs.dropLast, xs.getLast (by intro e; subst e; simp at h), (List.dropLast_concat_getLast _).symm⟩
@[simp] theorem getL_snoc (ds : List D) (d : D) : getD' (.list (ds ++ [d])) (.int (-1)) = pure d := getL_last (by simp)
@[simp] theorem getT_snoc (ds : List D) (d : D) : getD' (.tuple (ds ++ [d])) (.int (-1)) = pure d := getT_last (by simp)
theorem set_snoc {α : Type} (xs : List α) (a b : α) : (xs ++ [a]).set xs.length b = xs ++ [b] := by
  rw [List.set_append_right _ _ (Nat.le_refl _)]
  simp
/-! pieces -/
theorem cut_all {α : Type} (xs : List α) : cut xs none none = xs := by
  unfold cut
  rw [HT.sIx_none, HT.sIx_none]
  simp
theorem cut_to {α : Type} (xs : List α) {k : Int} (h : 0 ≤ k) : cut xs none (some k) = xs.take k.toNat := by
  unfold cut
  rw [HT.sIx_none]
  have : HT.sIx xs.length xs.length (some k) = min k.toNat xs.length := by
    show (if k < 0 then _ else _) = _
    rw [if_neg (by omega)]
  rw [this, Nat.sub_zero, List.drop_zero, List.take_eq_take_iff]
  omega
theorem cut_from {α : Type} (xs : List α) {k : Int} (h : 0 ≤ k) : cut xs (some k) none = xs.drop k.toNat := by
  unfold cut
  have : HT.sIx xs.length 0 (some k) = min k.toNat xs.length := by
    show (if k < 0 then _ else _) = _
    rw [if_neg (by omega)]
  rw [this, HT.sIx_none, List.take_of_length_le (by simp)]
  by_cases hk : k.toNat ≤ xs.length
  · rw [Nat.min_eq_left hk]
  · rw [Nat.min_eq_right (by omega), List.drop_of_length_le (by omega), List.drop_of_length_le (by omega)]
theorem cut_neg1 {α : Type} (xs : List α) : cut xs none (some (-1)) = xs.dropLast := by
  unfold cut
  have : HT.sIx xs.length xs.length (some (-1)) = xs.length - 1 := by
    show (if (-1 : Int) < 0 then (-1 + (xs.length : Int)).toNat else min (-1 : Int).toNat xs.length) = _
    rw [if_pos (by decide)]
    omega
  rw [this, HT.sIx_none, List.dropLast_eq_take]
  simp
@[simp] theorem getS_T (ds : List D) (lo hi : Option Int) : getS (.tuple ds) lo hi = pure (.tuple (cut ds lo hi)) := of_eq_true (eq_self _)
@[simp] theorem getS_L (ds : List D) (lo hi : Option Int) : getS (.list ds) lo hi = pure (.list (cut ds lo hi)) := of_eq_true (eq_self _)
theorem flat_rep {α : Type} (d : α) : ∀ n : Nat, (List.replicate n [d]).flatten = List.replicate n d
  | 0 => rfl
  | n + 1 => by rw [List.replicate_succ, List.replicate_succ, List.flatten_cons, flat_rep d n]; rfl
theorem binop_mulT {d : D} {k : Int} (h : 2 ≤ k) (h' : k ≤ 1000) : binop .Mult (.tuple [d]) (.int k) = pure (.tuple (List.replicate k.toNat d)) := by
  show (if [d] ≠ [] ∧ 2 ≤ k ∧ k ≤ 1000 ∧ [d].length ≤ 1000 then _ else _) = _
  rw [if_pos ⟨by simp, h, h', by simp⟩, flat_rep]
theorem binop_mulT1 (d : D) : binop .Mult (.tuple [d]) (.int 1) = pure (.tuple [d]) := by
  have e : binop .Mult (.tuple [d]) (.int 1) = if [d] ≠ [] ∧ (2 : Int) ≤ 1 ∧ (1 : Int) ≤ 1000 ∧ [d].length ≤ 1000 then pure (.tuple (List.replicate (1 : Int).toNat [d]).flatten) else if [d] ≠ [] ∧ (1 : Int) = 1 then pure (.tuple [d]) else fail := rfl
  rw [e, if_neg (by omega), if_pos ⟨by simp, rfl⟩]
theorem binop_mulTN {d : D} {k : Int} (h : 1 ≤ k) (h' : k ≤ 1000) : binop .Mult (.tuple [d]) (.int k) = pure (.tuple (List.replicate k.toNat d)) := by
  by_cases h2 : 2 ≤ k
  · exact binop_mulT h2 h'
  · have : k = 1 := by omega
    subst this
    exact binop_mulT1 d
theorem binop_mulL {d : D} {k : Int} (h : -1000000 ≤ k) (h' : k ≤ 1000000) : binop .Mult (.list [d]) (.int k) = pure (.list (List.replicate k.toNat d)) := by
  show (if k < 2 ^ 62 ∧ -(2 ^ 62) ≤ k ∧ [d].length * k.toNat ≤ sline then _ else _) = _
  rw [if_pos ⟨by omega, by omega, by unfold sline; simp; omega⟩, flat_rep]
/-- one of a written list -/
theorem pick {ds : List D} {i : Int} (h : 0 ≤ i) (h' : i < ds.length) : ∃ d ∈ ds, getD' (.list ds) (.int i) = pure d := by
  have hi : i.toNat < ds.length := by omega
  refine ⟨ds[i.toNat], List.getElem_mem hi, ?_⟩
  have := getL_nat (List.getElem?_eq_getElem hi)
  rwa [Int.toNat_of_nonneg h] at this
def sel (ds : List D) (i : Int) : D := ds.getD i.toNat .none
theorem sel_mem {ds : List D} {i : Int} (h : 0 ≤ i) (h' : i < ds.length) : sel ds i ∈ ds := by
  unfold sel
  have hi : i.toNat < ds.length := by omega
  rw [List.getD_eq_getElem?_getD, List.getElem?_eq_getElem hi]
  exact List.getElem_mem hi
theorem getL_sel {ds : List D} {i : Int} (h : 0 ≤ i) (h' : i < ds.length) : getD' (.list ds) (.int i) = pure (sel ds i) := by
  have hi : i.toNat < ds.length := by omega
  have := getL_nat (List.getElem?_eq_getElem hi)
  rw [Int.toNat_of_nonneg h] at this
  rw [this]
  unfold sel
  rw [List.getD_eq_getElem?_getD, List.getElem?_eq_getElem hi]
  rfl
theorem sel_all {P : D → Prop} {ds : List D} {i : Int} (h : 0 ≤ i) (h' : i < ds.length) (H : ∀ d ∈ ds, P d) : P (sel ds i) := H _ (sel_mem h h')
/-! what may be compared -/
def fine (n : Nat) (d : D) : Bool := d.canLay0 && decide (d.depth ≤ n)
theorem shaped_fine (d : D) : SeqAt.shaped d = fine 64 d := rfl
@[simp] theorem fine_int (n : Nat) (i : Int) : fine n (.int i) = true := by simp [fine, PyData.canLay0, PyData.depth]
@[simp] theorem fine_bool (n : Nat) (i : Bool) : fine n (.bool i) = true := by simp [fine, PyData.canLay0, PyData.depth]
@[simp] theorem fine_none (n : Nat) : fine n .none = true := by simp [fine, PyData.canLay0, PyData.depth]
theorem fine_strE (n : Nat) (x : Str) : fine n (.str x) = PyData.canLay0 (.str x) := by simp [fine, PyData.depth]
theorem fines : ∀ (n : Nat) (ds : List D), (PyData.canLayAll0 ds && decide (PyData.depthAll ds ≤ n)) = ds.all (fine n)
  | n, [] => by simp [PyData.canLayAll0, PyData.depthAll]
  | n, d :: ds => by
    have ih := fines n ds
    rw [List.all_cons, ← ih]
    simp [PyData.canLayAll0, PyData.depthAll, fine]
    have hm : decide (max d.depth (PyData.depthAll ds) ≤ n) = (decide (d.depth ≤ n) && decide (PyData.depthAll ds ≤ n)) := by
      simp [Nat.max_le]
    try rw [hm]
    cases d.canLay0 <;> cases PyData.canLayAll0 ds <;> simp [Nat.max_le]
@[simp] theorem fine_list (n : Nat) (ds : List D) : fine (n + 1) (.list ds) = ds.all (fine n) := by
  rw [← fines]
  simp [fine, PyData.canLay0, PyData.depth]
@[simp] theorem fine_tuple (n : Nat) (ds : List D) : fine (n + 1) (.tuple ds) = ds.all (fine n) := by
  rw [← fines]
  simp [fine, PyData.canLay0, PyData.depth]
theorem all_map_int (n : Nat) (xs : List Int) : (xs.map PyData.int).all (fine n) = true := by simp [List.all_map, Function.comp_def]
mutual
theorem eqv_self : ∀ d : D, d.canLay0 = true → PyData.eqv d d = true
  | .none, _ => by simp [PyData.eqv]
  | .bool _, _ => by simp [PyData.eqv]
  | .int _, _ => by simp [PyData.eqv]
  | .str _, _ => by simp [PyData.eqv]
  | .list ds, h => by
    simp [PyData.eqv]
    exact eqvAll_self ds (by simpa [PyData.canLay0] using h)
  | .tuple ds, h => by
    simp [PyData.eqv]
    exact eqvAll_self ds (by simpa [PyData.canLay0] using h)
  | .dict _, h => by simp [PyData.canLay0] at h
theorem eqvAll_self : ∀ ds : List D, PyData.canLayAll0 ds = true → PyData.eqvAll ds ds = true
  | [], _ => by simp [PyData.eqvAll]
  | d :: ds, h => by
    have h' : d.canLay0 = true ∧ PyData.canLayAll0 ds = true := by simpa [PyData.canLayAll0] using h
    simp [PyData.eqvAll, eqv_self d h'.1, eqvAll_self ds h'.2]
end
theorem eqD_self {d : D} (h : fine 64 d = true) : eqD d d = pure true := by
  have h1 : d.canLay0 = true := by
    unfold fine at h
    exact (Bool.and_eq_true_iff.mp h).1
  unfold eqD
  rw [shaped_fine, if_pos ⟨h, h⟩, eqv_self d h1]
theorem eqD_def {x y : D} (h : fine 64 x = true) (h' : fine 64 y = true) : eqD x y = pure (PyData.eqv x y) := by
  unfold eqD
  rw [shaped_fine, shaped_fine, if_pos ⟨h, h'⟩]
theorem eqvAll_nil (ds : List D) : PyData.eqvAll ds [] = ds.isEmpty := by cases ds <;> simp [PyData.eqvAll]
theorem eqvAll_ints : ∀ xs ys : List Int, PyData.eqvAll (xs.map .int) (ys.map .int) = decide (xs = ys)
  | [], [] => by simp [PyData.eqvAll]
  | x :: xs, [] => by simp [PyData.eqvAll]
  | [], y :: ys => by simp [PyData.eqvAll]
  | x :: xs, y :: ys => by
    simp [PyData.eqvAll, eqvAll_ints xs ys, PyData.eqv]
    by_cases h : x = y <;> simp [h]
theorem eqD_nil {ds : List D} (h : ds.all (fine 63) = true) : eqD (.list ds) (.list []) = pure ds.isEmpty := by
  rw [eqD_def (by simpa using h) (by simp)]
  simp [PyData.eqv, eqvAll_nil]
theorem eqD_lis (xs ys : List Int) : eqD (lisD xs) (lisD ys) = pure (decide (xs = ys)) := by
  rw [eqD_def (by rw [fine_list]; exact all_map_int _ _) (by rw [fine_list]; exact all_map_int _ _)]
  simp [PyData.eqv, eqvAll_ints]
theorem eqD_tup (xs ys : List Int) : eqD (tupD xs) (tupD ys) = pure (decide (xs = ys)) := by
  rw [eqD_def (by rw [fine_tuple]; exact all_map_int _ _) (by rw [fine_tuple]; exact all_map_int _ _)]
  simp [PyData.eqv, eqvAll_ints]
theorem eqD_str {a b : Str} (h : PyData.canLay0 (.str a) = true) (h' : PyData.canLay0 (.str b) = true) : eqD (.str a) (.str b) = pure (a == b) := by
  rw [eqD_def (by rw [fine_strE]; exact h) (by rw [fine_strE]; exact h')]
  simp [PyData.eqv]
/-! items of rows of numbers -/
def ix (xs : List Int) (i : Int) : Int := xs.getD i.toNat 0
theorem ix_get {xs : List Int} {i : Int} (h : 0 ≤ i) (h' : i < xs.length) : xs[i.toNat]? = some (ix xs i) := by
  have hi : i.toNat < xs.length := by omega
  unfold ix
  rw [List.getD_eq_getElem?_getD, List.getElem?_eq_getElem hi]
  rfl
theorem getT_ix {xs : List Int} {i : Int} (h : 0 ≤ i) (h' : i < xs.length) : getD' (.tuple (xs.map .int)) (.int i) = pure (.int (ix xs i)) := by
  have := getT_nat (ds := xs.map .int) (i := i.toNat) (d := .int (ix xs i)) (by rw [List.getElem?_map, ix_get h h']; rfl)
  rwa [Int.toNat_of_nonneg h] at this
theorem getL_ix {xs : List Int} {i : Int} (h : 0 ≤ i) (h' : i < xs.length) : getD' (.list (xs.map .int)) (.int i) = pure (.int (ix xs i)) := by
  have := getL_nat (ds := xs.map .int) (i := i.toNat) (d := .int (ix xs i)) (by rw [List.getElem?_map, ix_get h h']; rfl)
  rwa [Int.toNat_of_nonneg h] at this
theorem ix_mem {xs : List Int} {i : Int} (h : 0 ≤ i) (h' : i < xs.length) : ix xs i ∈ xs := List.mem_of_getElem? (ix_get h h')
theorem ix_map {α : Type} (f : α → Int) (xs : List α) (i : Nat) (h : i < xs.length) : ix (xs.map f) i = f xs[i] := by
  unfold ix
  rw [List.getD_eq_getElem?_getD, Int.toNat_natCast, List.getElem?_map, List.getElem?_eq_getElem h]
  rfl
/-! isinstance -/
@[simp] theorem isi_none_int : isiS (pure .none) "int" = pure (.bool false) := of_eq_true (eq_self _)
@[simp] theorem isi_none_bool : isiS (pure .none) "bool" = pure (.bool false) := of_eq_true (eq_self _)
@[simp] theorem isi_none_str : isiS (pure .none) "str" = pure (.bool false) := of_eq_true (eq_self _)
@[simp] theorem isi_none_tuple : isiS (pure .none) "tuple" = pure (.bool false) := of_eq_true (eq_self _)
@[simp] theorem isi_none_list : isiS (pure .none) "list" = pure (.bool false) := of_eq_true (eq_self _)
@[simp] theorem isi_bool_int (b : Bool) : isiS (pure (.bool b)) "int" = pure (.bool true) := of_eq_true (eq_self _)
@[simp] theorem isi_bool_bool (b : Bool) : isiS (pure (.bool b)) "bool" = pure (.bool true) := of_eq_true (eq_self _)
@[simp] theorem isi_bool_str (b : Bool) : isiS (pure (.bool b)) "str" = pure (.bool false) := of_eq_true (eq_self _)
@[simp] theorem isi_bool_tuple (b : Bool) : isiS (pure (.bool b)) "tuple" = pure (.bool false) := of_eq_true (eq_self _)
@[simp] theorem isi_bool_list (b : Bool) : isiS (pure (.bool b)) "list" = pure (.bool false) := of_eq_true (eq_self _)
@[simp] theorem isi_int_int (i : Int) : isiS (pure (.int i)) "int" = pure (.bool true) := of_eq_true (eq_self _)
@[simp] theorem isi_int_bool (i : Int) : isiS (pure (.int i)) "bool" = pure (.bool false) := of_eq_true (eq_self _)
@[simp] theorem isi_int_str (i : Int) : isiS (pure (.int i)) "str" = pure (.bool false) := of_eq_true (eq_self _)
@[simp] theorem isi_int_tuple (i : Int) : isiS (pure (.int i)) "tuple" = pure (.bool false) := of_eq_true (eq_self _)
@[simp] theorem isi_int_list (i : Int) : isiS (pure (.int i)) "list" = pure (.bool false) := of_eq_true (eq_self _)
@[simp] theorem isi_str_int (x : Str) : isiS (pure (.str x)) "int" = pure (.bool false) := of_eq_true (eq_self _)
@[simp] theorem isi_str_bool (x : Str) : isiS (pure (.str x)) "bool" = pure (.bool false) := of_eq_true (eq_self _)
@[simp] theorem isi_str_str (x : Str) : isiS (pure (.str x)) "str" = pure (.bool true) := of_eq_true (eq_self _)
@[simp] theorem isi_str_tuple (x : Str) : isiS (pure (.str x)) "tuple" = pure (.bool false) := of_eq_true (eq_self _)
@[simp] theorem isi_str_list (x : Str) : isiS (pure (.str x)) "list" = pure (.bool false) := of_eq_true (eq_self _)
@[simp] theorem isi_tuple_int (ds : List D) : isiS (pure (.tuple ds)) "int" = pure (.bool false) := of_eq_true (eq_self _)
@[simp] theorem isi_tuple_bool (ds : List D) : isiS (pure (.tuple ds)) "bool" = pure (.bool false) := of_eq_true (eq_self _)
@[simp] theorem isi_tuple_str (ds : List D) : isiS (pure (.tuple ds)) "str" = pure (.bool false) := of_eq_true (eq_self _)
@[simp] theorem isi_tuple_tuple (ds : List D) : isiS (pure (.tuple ds)) "tuple" = pure (.bool true) := of_eq_true (eq_self _)
@[simp] theorem isi_tuple_list (ds : List D) : isiS (pure (.tuple ds)) "list" = pure (.bool false) := of_eq_true (eq_self _)
@[simp] theorem isi_list_int (ds : List D) : isiS (pure (.list ds)) "int" = pure (.bool false) := of_eq_true (eq_self _)
@[simp] theorem isi_list_bool (ds : List D) : isiS (pure (.list ds)) "bool" = pure (.bool false) := of_eq_true (eq_self _)
@[simp] theorem isi_list_str (ds : List D) : isiS (pure (.list ds)) "str" = pure (.bool false) := of_eq_true (eq_self _)
@[simp] theorem isi_list_tuple (ds : List D) : isiS (pure (.list ds)) "tuple" = pure (.bool false) := of_eq_true (eq_self _)
@[simp] theorem isi_list_list (ds : List D) : isiS (pure (.list ds)) "list" = pure (.bool true) := of_eq_true (eq_self _)
theorem sl {n : Nat} (h : n ≤ 10000) : n ≤ sline := Nat.le_trans h (by decide)
theorem sl' {n : Nat} (h : n ≤ 10000) : n < sline := Nat.lt_of_le_of_lt h (by decide)
@[simp] theorem bi_sum_map {α : Type} (f : α → Int) (xs : List α) : bi "sum" [.list (xs.map fun x => .int (f x))] = pure (.int (xs.map f).sum) := bi_sumL (intsOf_map' f xs)
@[simp] theorem bi_sum_comp {α : Type} (f : α → Int) (xs : List α) : bi "sum" [.list (xs.map (PyData.int ∘ f))] = pure (.int (xs.map f).sum) := bi_sumL (intsOf_map' f xs)
theorem filter_empty {α : Type} (p : α → Bool) (xs : List α) : (xs.filter p).isEmpty = xs.all fun x => !p x := by
  induction xs with
  | nil => rfl
  | cons x xs ih =>
    by_cases h : p x = true
    · rw [List.filter_cons_of_pos h]
      simp [h]
    · rw [List.filter_cons_of_neg h, ih]
      simp [h]
theorem eqD_filtF {α : Type} {f : α → D} (h : ∀ x, fine 63 (f x) = true) (p : α → Bool) (xs : List α) : eqD (.list ((xs.filter p).map f)) (.list []) = pure (xs.all fun x => !p x) := by
  rw [eqD_nil, List.isEmpty_map, filter_empty]
  rw [List.all_map, List.all_eq_true]
  exact fun x _ => h x
theorem eqD_filt {α : Type} (f : α → Int) (p : α → Bool) (xs : List α) : eqD (.list ((xs.filter p).map fun x => .int (f x))) (.list []) = pure (xs.all fun x => !p x) := eqD_filtF (fun _ => by simp) p xs
theorem eqD_filtI (p : Int → Bool) (xs : List Int) : eqD (.list ((xs.filter p).map PyData.int)) (.list []) = pure (xs.all fun x => !p x) := eqD_filtF (fun _ => by simp) p xs
@[simp] theorem nod_dict (kvs : List (D × D)) : nod (.dict kvs) = false := by simp [nod]
@[simp] theorem ndlt (a b : Int) : (!decide (a < b)) = decide (b ≤ a) := by
  rw [Bool.eq_iff_iff]
  simp
@[simp] theorem ndle (a b : Int) : (!decide (a ≤ b)) = decide (b < a) := by
  rw [Bool.eq_iff_iff]
  simp
theorem sortI_len (xs : List Int) : (sortI xs).length = xs.length := by simp [sortI]
theorem sortI_mem {xs : List Int} {x : Int} : x ∈ sortI xs ↔ x ∈ xs := by simp [sortI]
/-- drawn items that are numbers -/
theorem dints_of {α : Type} {ys : List D} {xs : List α} {P : Int → Prop} (hl : ys.length = xs.length) (h : ∀ (i : Nat) (x : α) y, xs[i]? = some x → ys[i]? = some y → ∃ n, y = .int n ∧ P n) :
    ∃ ns : List Int, ys = ns.map .int ∧ ns.length = xs.length ∧ ∀ n ∈ ns, P n := by
  induction ys generalizing xs with
  | nil => exact ⟨[], rfl, by simpa using hl, by simp⟩
  | cons y ys ih =>
    cases xs with
    | nil => simp at hl
    | cons x xs =>
      obtain ⟨ns, rfl, h2, h3⟩ := ih (xs := xs) (by simpa using hl) fun i x y hx hy => h (i + 1) x y (by simpa using hx) (by simpa using hy)
      obtain ⟨n, rfl, hn⟩ := h 0 x y rfl rfl
      exact ⟨n :: ns, rfl, by simp [h2], by simpa using ⟨hn, h3⟩⟩
theorem range0 {n : Int} (h : n ≤ 100000) (h' : -100000 ≤ n) : iterC "range" [.int n] = pure ((List.range n.toNat).map fun (i : Nat) => PyData.int (0 + (i : Int))) := iterC_range1 (in62_of (by omega) (by omega))
theorem range2 {a b : Int} (h : a ≤ 100000) (h' : -100000 ≤ a) (g : b ≤ 100000) (g' : -100000 ≤ b) : iterC "range" [.int a, .int b] = pure ((List.range (b - a).toNat).map fun (i : Nat) => PyData.int (a + (i : Int))) := iterC_range2 (in62_of (by omega) (by omega)) (in62_of (by omega) (by omega))
@[simp] theorem sTry_pure (fl : Flow) (k : Flow → M Flow) : sTry (pure fl) k = k fl := of_eq_true (eq_self _)
@[simp] theorem catch_ret (e : Str → Bool) (c : Str) (i : Nat → Bool) (h : Str → Option D) (d : D) (o : Bool) : catchS e c i h (.ret d o) = pure (.ret d o) := of_eq_true (eq_self _)
@[simp] theorem catch_nx (e : Str → Bool) (c : Str) (i : Nat → Bool) (h : Str → Option D) (σ : St) : catchS e c i h (.nx σ) = pure (.nx σ) := of_eq_true (eq_self _)
@[simp] theorem catchM_ret (e : Str → Bool) (l : List ClauseS) (d : D) (o : Bool) : catchM e l (.ret d o) = pure (.ret d o) := of_eq_true (eq_self _)
@[simp] theorem catchM_nx (e : Str → Bool) (l : List ClauseS) (σ : St) : catchM e l (.nx σ) = pure (.nx σ) := of_eq_true (eq_self _)
theorem catchM_rz {e : Str → Bool} {cn : Str} {fs : List (Str × D)} {σ : St} {l : List ClauseS} (h1 : e cn = true) (h2 : (l.all fun p => p.2.1 σ.length) = true) : catchM e l (.rz ⟨cn, fs⟩ σ) = clausesS ⟨cn, fs⟩ σ l := by
  unfold catchM
  simp only
  rw [if_pos ⟨h1, h2⟩]
theorem clauses_hit {x : Exc} {σ : St} {c : Str} {i : Nat → Bool} {h : Exc → Option D} {r : List ClauseS} (d : D) (h3 : x.cls = c) (h4 : h x = some d) : clausesS x σ ((c, i, h) :: r) = pure (.ret d false) := by
  rw [clausesS, if_pos h3, h4]
theorem clauses_miss {x : Exc} {σ : St} {c : Str} {i : Nat → Bool} {h : Exc → Option D} {r : List ClauseS} (h3 : x.cls ≠ c) : clausesS x σ ((c, i, h) :: r) = clausesS x σ r := by
  rw [clausesS, if_neg h3]
theorem catch_rz {e : Str → Bool} {c cn : Str} {fs : List (Str × D)} {i : Nat → Bool} {h : Str → Option D} {σ : St} (d : D) (h1 : e cn = true) (h2 : i σ.length = true) (h3 : cn = c) (h4 : h cn = some d) : catchS e c i h (.rz ⟨cn, fs⟩ σ) = pure (.ret d false) := by
  unfold catchS
  rw [catchM_rz h1 (by simp [h2]), clauses_hit d h3 h4]
@[simp] theorem eqD_bool (a b : Bool) : eqD (.bool a) (.bool b) = pure (a == b) := by
  rw [eqD_def (by simp) (by simp)]
  simp [PyData.eqv]
@[simp] theorem forL_nil (bind : St → D → Option St) (b : St → M Flow) (σ : St) : forL bind b [] σ = pure (.nx σ) := of_eq_true (eq_self _)
theorem forL_cons {bind : St → D → Option St} {b : St → M Flow} {d : D} {ds : List D} {σ σ1 σ2 : St} (h : bind σ d = some σ1) (h2 : b σ1 = pure (.nx σ2)) : forL bind b (d :: ds) σ = forL bind b ds σ2 := by
  rw [forL.eq_def]
  simp only [h, h2, pure_bd]
theorem forL_ds {bind : St → D → Option St} {b : St → M Flow} (xs : List D) (I : Nat → St → DS → Prop)
    (H : ∀ k x σ s, xs[k]? = some x → I k σ s → ∃ σ1, bind σ x = some σ1 ∧ (b σ1 s).sat (NC (I (k + 1)))) {σ : St} {s : DS} (h0 : I 0 σ s) :
    (forL bind b xs σ s).sat (NX (I xs.length)) := by
  have := forL_at id (bind := bind) (b := b) xs I H h0
  rwa [List.map_id] at this
@[simp] theorem getT_zero (d : D) (ds : List D) : getD' (.tuple (d :: ds)) (.int 0) = pure d := getT_nat (i := 0) rfl
@[simp] theorem getT_one (d e : D) (ds : List D) : getD' (.tuple (d :: e :: ds)) (.int 1) = pure e := getT_nat (i := 1) rfl
@[simp] theorem getL_zero (d : D) (ds : List D) : getD' (.list (d :: ds)) (.int 0) = pure d := getL_nat (i := 0) rfl
@[simp] theorem getL_one (d e : D) (ds : List D) : getD' (.list (d :: e :: ds)) (.int 1) = pure e := getL_nat (i := 1) rfl
@[simp] theorem revS_list (ds : List D) : revS (pure (.list ds)) = pure (.list ds.reverse) := of_eq_true (eq_self _)
@[simp] theorem sParN_def (σ : St) (ns : List Bool) (ms : List (M D)) (is : List Nat) : sParN σ ns ms is = stE (evsS ms) σ fun ds => nx1 (setPar ns σ is ds) := of_eq_true (eq_self _)
@[simp] theorem setPar_2 (p q : Bool) (σ : St) (i j : Nat) (d e : D) : setPar [p, q] σ [i, j] [d, e] = some ((σ.set i (some (d, p && isL d))).set j (some (e, q && isL e))) := rfl
@[simp] theorem setPar_f3 (a b c : Bool) (σ : St) (is : List Nat) (ds : List D) : setPar [a, b, c] σ is ds = setAll σ is ds := by
  rfl
@[simp] theorem augI_add (a b : Int) : augI .Add a b = some (a + b) := of_eq_true (eq_self _)
@[simp] theorem augI_sub (a b : Int) : augI .Sub a b = some (a - b) := of_eq_true (eq_self _)
theorem sAug_int {σ : St} {i : Nat} {op : Operator} {a b c : Int} {o : Bool} (h : σ[i]? = some (some (.int a, o))) (h2 : augI op a b = some c) : sAug σ i op (pure (.int b)) = pure (.nx (σ.set i (some (.int c, false)))) := by
  unfold sAug
  rw [h]
  simp only [stE_pure, h2, nx1_some]
theorem sApp_own {σ : St} {l : Nat} {ds : List D} {d : D} (h : σ[l]? = some (some (.list ds, true))) (hl : ds.length < sline) : sApp σ l (pure d) = pure (.nx (σ.set l (some (.list (ds ++ [d]), true)))) := by
  unfold sApp
  rw [ownI_some σ l ds h]
  simp only [stE_pure]
  rw [if_pos hl]
/-- a loop that gives back at the first item that fits -/
theorem forL_find {α : Type} {enc : α → D} {bind : St → D → Option St} {b : St → M Flow} (p : α → Bool) (r : α → D × Bool) (st : Sl → St) (hb : ∀ v x, bind (st v) (enc x) = some (st (some (enc x, false)))) : ∀ (xs : List α)
    (_ : ∀ x ∈ xs, b (st (some (enc x, false))) = if p x = true then pure (.ret (r x).1 (r x).2) else pure (.nx (st (some (enc x, false))))) (v : Sl),
    ∃ v', forL bind b (xs.map enc) (st v) = pure (match xs.find? p with | some x => .ret (r x).1 (r x).2 | none => .nx (st v'))
  | [], _, v => ⟨v, rfl⟩
  | x :: xs, H, v => by
    have h1 := H x (List.mem_cons_self ..)
    obtain ⟨v', e⟩ := forL_find p r st hb xs (fun y hy => H y (List.mem_cons_of_mem _ hy)) (some (enc x, false))
    rw [List.map_cons]
    unfold forL
    rw [hb]
    simp only
    rw [h1]
    cases hp : p x with
    | true =>
      refine ⟨none, ?_⟩
      rw [if_pos rfl, List.find?_cons_of_pos hp]
      rfl
    | false =>
      refine ⟨v', ?_⟩
      rw [if_neg (by simp), List.find?_cons_of_neg (by simp [hp]), pure_bd]
      exact e
/-- a loop that carries a value -/
theorem forL_fold {α β : Type} {enc : α → D} {bind : St → D → Option St} {b : St → M Flow} (f : β → α → β) (st : β → Sl → St) (hb : ∀ a v x, bind (st a v) (enc x) = some (st a (some (enc x, false)))) (P : Nat → β → Prop) : ∀ (xs : List α) (k : Nat)
    (_ : ∀ (i : Nat) x a, xs[i]? = some x → P (k + i) a → b (st a (some (enc x, false))) = pure (.nx (st (f a x) (some (enc x, false)))) ∧ P (k + i + 1) (f a x)) (a : β) (_ : P k a) (v : Sl),
    ∃ v', forL bind b (xs.map enc) (st a v) = pure (.nx (st (xs.foldl f a) v')) ∧ P (k + xs.length) (xs.foldl f a)
  | [], k, _, a, h, v => ⟨v, rfl, h⟩
  | x :: xs, k, H, a, h, v => by
    obtain ⟨h1, h2⟩ := H 0 x a rfl h
    obtain ⟨v', e, h3⟩ := forL_fold f st hb P xs (k + 1) (fun i y c hy hc => by
      have := H (i + 1) y c (by simpa using hy) (by rwa [show k + (i + 1) = k + 1 + i from by omega])
      rwa [show k + (i + 1) + 1 = k + 1 + i + 1 from by omega] at this) (f a x) h2 (some (enc x, false))
    refine ⟨v', ?_, by rw [List.foldl_cons, List.length_cons, show k + (xs.length + 1) = k + 1 + xs.length from by omega]; exact h3⟩
    rw [List.map_cons]
    unfold forL
    rw [hb]
    simp only
    rw [h1, pure_bd]
    exact e
@[simp] theorem bi_sum_dropL (k : Nat) (xs : List Int) : bi "sum" [.list ((xs.map PyData.int).drop k)] = pure (.int (xs.drop k).sum) := by rw [← List.map_drop]; exact bi_sum_ints _
@[simp] theorem bi_sum_dropT (k : Nat) (xs : List Int) : bi "sum" [.tuple ((xs.map PyData.int).drop k)] = pure (.int (xs.drop k).sum) := by rw [← List.map_drop]; exact bi_sum_tup _
@[simp] theorem bi_sum_takeL (k : Nat) (xs : List Int) : bi "sum" [.list ((xs.map PyData.int).take k)] = pure (.int (xs.take k).sum) := by rw [← List.map_take]; exact bi_sum_ints _
@[simp] theorem bi_sum_takeT (k : Nat) (xs : List Int) : bi "sum" [.tuple ((xs.map PyData.int).take k)] = pure (.int (xs.take k).sum) := by rw [← List.map_take]; exact bi_sum_tup _
theorem rangeN {n : Nat} (h : n ≤ 100000) : iterC "range" [.int (n : Int)] = pure ((List.range n).map fun (i : Nat) => PyData.int (i : Int)) := by
  rw [iterC_range1 (in62_nat (by omega)), rangeD_eq, Int.toNat_natCast]
  simp
@[simp] theorem is_nn : cmpop .Is .none .none = pure true := of_eq_true (eq_self _)
@[simp] theorem is_in (i : Int) : cmpop .Is (.int i) .none = pure false := of_eq_true (eq_self _)
@[simp] theorem is_tn (ds : List D) : cmpop .Is (.tuple ds) .none = pure false := of_eq_true (eq_self _)
@[simp] theorem isn_nn : cmpop .IsNot .none .none = pure false := of_eq_true (eq_self _)
@[simp] theorem isn_in (i : Int) : cmpop .IsNot (.int i) .none = pure true := of_eq_true (eq_self _)
@[simp] theorem isn_tn (ds : List D) : cmpop .IsNot (.tuple ds) .none = pure true := of_eq_true (eq_self _)
@[simp] theorem is_bb (a b : Bool) : cmpop .Is (.bool a) (.bool b) = pure (a == b) := of_eq_true (eq_self _)
@[simp] theorem isn_bb (a b : Bool) : cmpop .IsNot (.bool a) (.bool b) = pure (!(a == b)) := of_eq_true (eq_self _)
end Py

set_option Elab.async false
set_option linter.all false
set_option maxRecDepth 100000
namespace Py
open PySem
/-- the trailing noughts go -/
theorem strip_loop {c : St → M D} {b : St → M Flow} (st : List Int → St) (hc0 : c (st []) = pure (.bool false)) (hc : ∀ ys z, c (st (ys ++ [z])) = pure (.bool (decide (z = 0)))) (hb : ∀ ys z, b (st (ys ++ [z])) = pure (.nx (st ys))) : ∀ (n : Nat) (row : List Int), row.length < n →
    ∃ ys m, row = ys ++ List.replicate m 0 ∧ (ys = [] ∨ ∃ zs z, ys = zs ++ [z] ∧ z ≠ 0) ∧ sWhile c b n (st row) = pure (.nx (st ys))
  | 0, row, h => absurd h (Nat.not_lt_zero _)
  | n + 1, row, h => by
    by_cases he : row = []
    · subst he
      refine ⟨[], 0, rfl, .inl rfl, ?_⟩
      unfold sWhile whileL
      rw [hc0]
      simp
    · obtain ⟨ys, z, rfl⟩ := snoc_of (xs := row) (by cases row with | nil => exact absurd rfl he | cons => simp)
      by_cases hz : z = 0
      · subst hz
        obtain ⟨zs, m, e, h2, h3⟩ := strip_loop st hc0 hc hb n ys (by simp at h; omega)
        refine ⟨zs, m + 1, ?_, h2, ?_⟩
        · rw [e, List.append_assoc]
          congr 1
          exact (List.replicate_succ' ..).symm
        · unfold sWhile at h3 ⊢
          unfold whileL
          rw [hc]
          simp only [tstS_bool, stE_pure, decide_true, if_true]
          rw [hb, pure_bd]
          exact h3
      · refine ⟨ys ++ [z], 0, by simp, .inr ⟨ys, z, rfl, hz⟩, ?_⟩
        unfold sWhile whileL
        rw [hc]
        simp [hz]
theorem msr_list (σ : St) (i : Nat) (ds : List D) (o : Bool) (h : σ[i]? = some (some (.list ds, o))) : ds.length ≤ msr σ := by
  unfold msr
  induction σ generalizing i with
  | nil => simp at h
  | cons x σ ih =>
    cases i with
    | zero => simp at h; subst h; simp
    | succ i =>
      have := ih i (by simpa using h)
      simp only [List.map_cons, List.sum_cons]
      omega
theorem eqD_listnil (xs : List Int) : eqD (.list (xs.map .int)) (.list []) = pure (decide (xs = [])) := eqD_lis xs []
theorem set_mapI (row : List Int) (i : Nat) (v : Int) : (row.map PyData.int).set i (.int v) = (row.set i v).map .int := by rw [List.map_set]
theorem ext_ix {xs ys : List Int} (hl : xs.length = ys.length) (h : ∀ k : Nat, k < xs.length → ix xs k = ix ys k) : xs = ys := by
  apply List.ext_getElem hl
  intro i h1 h2
  have := h i h1
  unfold ix at this
  simpa [h1, h2] using this
theorem forL_foldG {α β V : Type} {enc : α → D} {bind : St → D → Option St} {b : St → M Flow} (f : β → α → β) (st : β → V → St) (I : β → Prop) : ∀ (xs : List α)
    (_ : ∀ x ∈ xs, ∀ a v, I a → ∃ σ1, bind (st a v) (enc x) = some σ1 ∧ (∃ v', b σ1 = pure (.nx (st (f a x) v'))) ∧ I (f a x)) (a : β) (_ : I a) (v : V),
    ∃ v', forL bind b (xs.map enc) (st a v) = pure (.nx (st (xs.foldl f a) v')) ∧ I (xs.foldl f a)
  | [], _, a, h, v => ⟨v, rfl, h⟩
  | x :: xs, H, a, h, v => by
    obtain ⟨σ1, h1, ⟨v1, h2⟩, h3⟩ := H x (List.mem_cons_self ..) a v h
    obtain ⟨v', e, h4⟩ := forL_foldG f st I xs (fun y hy => H y (List.mem_cons_of_mem _ hy)) (f a x) h3 v1
    exact ⟨v', by rw [List.map_cons, forL_cons h1 h2, e]; rfl, h4⟩
theorem forL_foldP {α β V : Type} {enc : α → D} {bind : St → D → Option St} {b : St → M Flow} (f : β → α → β) (st : β → V → St) (I : List α → β → Prop) : ∀ (xs : List α)
    (_ : ∀ x ys, x ∈ xs → ∀ a v, I (x :: ys) a → ∃ σ1, bind (st a v) (enc x) = some σ1 ∧ (∃ v', b σ1 = pure (.nx (st (f a x) v'))) ∧ I ys (f a x)) (a : β) (_ : I xs a) (v : V),
    ∃ v', forL bind b (xs.map enc) (st a v) = pure (.nx (st (xs.foldl f a) v'))
  | [], _, a, h, v => ⟨v, rfl⟩
  | x :: xs, H, a, h, v => by
    obtain ⟨σ1, h1, ⟨v1, h2⟩, h3⟩ := H x xs (List.mem_cons_self ..) a v h
    obtain ⟨v', e⟩ := forL_foldP f st I xs (fun y ys hy => H y ys (List.mem_cons_of_mem _ hy)) (f a x) h3 v1
    exact ⟨v', by rw [List.map_cons, forL_cons h1 h2, e]; rfl⟩
/-- v is added at i -/
def addAt (xs : List Int) (i : Nat) (v : Int) : List Int := xs.set i (ix xs i + v)
@[simp] theorem addAt_len (xs : List Int) (i : Nat) (v : Int) : (addAt xs i v).length = xs.length := by simp [addAt]
theorem ix_addAt {r : List Int} {i : Nat} (h : i < r.length) (v : Int) (k : Nat) : ix (addAt r i v) k = ix r k + if k = i then v else 0 := by
  unfold addAt
  by_cases hk : k = i
  · subst hk
    simp [ix, h]
  · rw [if_neg hk]
    simp only [ix, Int.toNat_natCast, List.getD_eq_getElem?_getD]
    rw [List.getElem?_set_ne (by omega)]
    omega
/-- l[i] = v -/
theorem sSub_own {σ : St} {l i : Nat} {xs : List Int} {v : Int} (h : σ[l]? = some (some (.list (xs.map .int), true))) (hi : i < xs.length) :
    sSub σ l (pure (.int (i : Int))) (pure (.int v)) = pure (.nx (σ.set l (some (.list ((xs.set i v).map .int), true)))) := by
  have h1 : L2.ixN (xs.map PyData.int).length (i : Int) = some i := by
    rw [List.length_map]
    exact ixN_nat hi
  unfold sSub
  rw [ownI_some _ _ _ h]
  simp only [stE_pure, h1]
  simp [List.map_set]
theorem set_sum : ∀ (r : List Int) (i : Nat) (v : Int), i < r.length → (r.set i v).sum = r.sum - ix r i + v
  | [], i, v, h => by simp at h
  | x :: r, 0, v, h => by simp [ix]; omega
  | x :: r, i + 1, v, h => by
    have := set_sum r i v (by simpa using h)
    simp [ix] at this ⊢
    omega
theorem addAt_sum {r : List Int} {i : Nat} (h : i < r.length) (v : Int) : (addAt r i v).sum = r.sum + v := by
  unfold addAt
  rw [set_sum r i _ h]
  omega
theorem msr_int (σ : St) (i : Nat) (x : Int) (o : Bool) (h : σ[i]? = some (some (.int x, o))) : x.natAbs ≤ msr σ := by
  unfold msr
  induction σ generalizing i with
  | nil => simp at h
  | cons s σ ih =>
    cases i with
    | zero =>
      simp at h
      subst h
      simp
    | succ i =>
      have := ih i (by simpa using h)
      simp at this ⊢
      omega
/-- without the noughts at the end -/
def strp (xs : List Int) : List Int := (xs.reverse.dropWhile (· == 0)).reverse
theorem strp_snoc0 (xs : List Int) : strp (xs ++ [0]) = strp xs := by simp [strp]
theorem strp_snoc {xs : List Int} {z : Int} (h : z ≠ 0) : strp (xs ++ [z]) = xs ++ [z] := by simp [strp, h]
theorem strip_ne {c : St → M D} {b : St → M Flow} (st : List Int → St) (hc : ∀ ys z, c (st (ys ++ [z])) = pure (.bool (decide (z = 0)))) (hb : ∀ ys z, b (st (ys ++ [z])) = pure (.nx (st ys))) : ∀ (n : Nat) (row : List Int), row.length < n → (∃ x ∈ row, x ≠ 0) →
    sWhile c b n (st row) = pure (.nx (st (strp row)))
  | 0, row, h, _ => absurd h (Nat.not_lt_zero _)
  | n + 1, row, h, hx => by
    obtain ⟨ys, z, rfl⟩ := snoc_of (xs := row) (by cases row with | nil => obtain ⟨x, hx, _⟩ := hx; cases hx | cons => simp)
    unfold sWhile whileL
    rw [hc]
    by_cases hz : z = 0
    · subst hz
      have ih := strip_ne st hc hb n ys (by simp at h; omega) (by
        obtain ⟨x, hx, h0⟩ := hx
        rcases List.mem_append.mp hx with hx | hx
        · exact ⟨x, hx, h0⟩
        · simp at hx; exact absurd hx h0)
      rw [strp_snoc0]
      simp only [tstS_bool, stE_pure, decide_true, if_true]
      rw [hb, pure_bd]
      unfold sWhile at ih
      exact ih
    · rw [strp_snoc hz]
      simp [hz]
theorem strp_rep : ∀ (m : Nat) (xs : List Int), strp (xs ++ List.replicate m 0) = strp xs
  | 0, xs => by simp
  | m + 1, xs => by rw [List.replicate_succ', ← List.append_assoc, strp_snoc0, strp_rep m xs]
/-! sums over places -/
def sumR (n : Nat) (f : Nat → Int) : Int := ((List.range n).map f).sum
@[simp] theorem sumR_zero (f : Nat → Int) : sumR 0 f = 0 := rfl
theorem sumR_front (n : Nat) (f : Nat → Int) : sumR (n + 1) f = f 0 + sumR n (fun i => f (i + 1)) := by
  unfold sumR
  rw [List.range_succ_eq_map]
  simp [Function.comp_def]
theorem sumR_back (n : Nat) (f : Nat → Int) : sumR (n + 1) f = sumR n f + f n := by
  unfold sumR
  rw [List.range_succ]
  simp
theorem sumR_add (n : Nat) (f g : Nat → Int) : sumR n (fun i => f i + g i) = sumR n f + sumR n g := by
  induction n with
  | zero => rfl
  | succ n ih => rw [sumR_back, sumR_back, sumR_back, ih]; omega
theorem sumR_sub (n : Nat) (f g : Nat → Int) : sumR n (fun i => f i - g i) = sumR n f - sumR n g := by
  induction n with
  | zero => rfl
  | succ n ih => rw [sumR_back, sumR_back, sumR_back, ih]; omega
theorem sumR_congr {n : Nat} {f g : Nat → Int} (h : ∀ i, i < n → f i = g i) : sumR n f = sumR n g := by
  unfold sumR
  rw [List.map_congr_left fun i hi => h i (List.mem_range.mp hi)]
theorem sumR_mul (c : Int) (n : Nat) (f : Nat → Int) : sumR n (fun i => c * f i) = c * sumR n f := by
  induction n with
  | zero => simp
  | succ n ih => rw [sumR_back, sumR_back, ih, Int.mul_add]
theorem sumR_const0 (n : Nat) : sumR n (fun _ => 0) = 0 := by
  induction n with
  | zero => rfl
  | succ n ih => rw [sumR_back, ih]; rfl
theorem sum_ix : ∀ (xs : List Int), xs.sum = sumR xs.length (fun i => ix xs i)
  | [] => rfl
  | x :: xs => by
    rw [List.length_cons, sumR_front, List.sum_cons, sum_ix xs]
    rfl
theorem ix_cons_succ (x : Int) (xs : List Int) (i : Nat) : ix (x :: xs) ((i + 1 : Nat) : Int) = ix xs i := rfl
theorem ix_cons_zero (x : Int) (xs : List Int) : ix (x :: xs) ((0 : Nat) : Int) = x := rfl
theorem sumR_swap (n m : Nat) (f : Nat → Nat → Int) : sumR n (fun i => sumR m (fun j => f i j)) = sumR m (fun j => sumR n (fun i => f i j)) := by
  induction n with
  | zero => simp [sumR_const0]
  | succ n ih =>
    rw [sumR_back, ih, ← sumR_add]
    exact sumR_congr fun j _ => (sumR_back n (fun i => f i j)).symm
theorem ix_drop (xs : List Int) (k i : Nat) : ix (xs.drop k) i = ix xs ((k + i : Nat) : Int) := by
  unfold ix
  simp only [Int.toNat_natCast, List.getD_eq_getElem?_getD, List.getElem?_drop]
theorem ix_take {xs : List Int} {k i : Nat} (h : i < k) : ix (xs.take k) i = ix xs i := by
  unfold ix
  simp [List.getElem?_take, h]
theorem getL_N {xs : List Int} {i : Nat} (h : i < xs.length) : getD' (.list (xs.map .int)) (.int (i : Int)) = pure (.int (ix xs i)) := getL_ix (by omega) (by omega)
theorem ixB {n : Nat} {a : List Int} (h : ∀ e ∈ a, Bt n e) {i : Nat} (hi : i < a.length) : Bt n (ix a i) := h _ (ix_mem (by omega) (by omega))
/-- a loop that gives back at the first item that fits -/
theorem forL_findG {α V : Type} {enc : α → D} {bind : St → D → Option St} {b : St → M Flow} (p : α → Bool) (r : α → D × Bool) (st : V → St) : ∀ (xs : List α)
    (_ : ∀ x ∈ xs, ∀ v, ∃ σ1, bind (st v) (enc x) = some σ1 ∧ (p x = true → b σ1 = pure (.ret (r x).1 (r x).2)) ∧ (p x = false → ∃ v', b σ1 = pure (.nx (st v')))) (v : V),
    (∃ x, xs.find? p = some x ∧ forL bind b (xs.map enc) (st v) = pure (.ret (r x).1 (r x).2)) ∨ (xs.find? p = none ∧ ∃ v', forL bind b (xs.map enc) (st v) = pure (.nx (st v')))
  | [], _, v => .inr ⟨rfl, v, rfl⟩
  | x :: xs, H, v => by
    obtain ⟨σ1, h1, h2, h3⟩ := H x (List.mem_cons_self ..) v
    cases hp : p x with
    | true =>
      refine .inl ⟨x, by rw [List.find?_cons_of_pos hp], ?_⟩
      rw [List.map_cons]
      unfold forL
      rw [h1]
      simp only
      rw [h2 hp, pure_bd]
    | false =>
      obtain ⟨v', h3⟩ := h3 hp
      have ih := forL_findG p r st xs (fun y hy => H y (List.mem_cons_of_mem _ hy)) v'
      rw [List.map_cons, forL_cons h1 h3, List.find?_cons_of_neg (by simp [hp])]
      exact ih
theorem foldl_sumR (g : Nat → Int) : ∀ (n : Nat) (a : Int), (List.range n).foldl (fun a k => a + g k) a = a + sumR n g
  | 0, a => by simp
  | n + 1, a => by
    rw [List.range_succ, List.foldl_append, foldl_sumR g n a, sumR_back]
    simp
    omega
theorem enum_R (xs : List Int) : enumD 0 (xs.map PyData.int) = (List.range xs.length).map fun (i : Nat) => PyData.tuple [.int (i : Int), .int (ix xs i)] := by
  have key : ∀ (xs : List Int) (k : Int), enumD k (xs.map PyData.int) = (List.range xs.length).map fun (i : Nat) => PyData.tuple [.int (k + (i : Int)), .int (ix xs i)] := by
    intro xs
    induction xs with
    | nil => intro k; rfl
    | cons x xs ih =>
      intro k
      rw [List.map_cons, enumD, ih (k + 1), List.length_cons, List.range_succ_eq_map]
      simp [ix]
      intro i hi
      omega
  rw [key xs 0]
  simp
theorem filter_sorted (p : Nat → Bool) (n : Nat) : ((List.range n).filter p).Pairwise (· < ·) := List.Pairwise.filter p List.pairwise_lt_range
theorem minI_head : ∀ (l : List Nat), l.Pairwise (· < ·) → l ≠ [] → minI (l.map fun (k : Nat) => (k : Int)) = (l.headD 0 : Nat)
  | [], _, h => absurd rfl h
  | k :: l, hp, _ => by
    have key : ∀ (l : List Nat) (k : Nat), (∀ j ∈ l, k < j) → (l.map fun (k : Nat) => (k : Int)).foldl min (k : Int) = k := by
      intro l
      induction l with
      | nil => intro k _; rfl
      | cons j l ih =>
        intro k h
        have hj := h j (List.mem_cons_self ..)
        rw [List.map_cons, List.foldl_cons, show min (k : Int) (j : Int) = k by omega]
        exact ih k fun i hi => h i (List.mem_cons_of_mem _ hi)
    exact key l k (List.pairwise_cons.mp hp).1
theorem bi_minN {l : List Nat} (hs : l.Pairwise (· < ·)) (h : l ≠ []) : bi "min" [.list (l.map fun (k : Nat) => PyData.int (k : Int))] = pure (.int (l.headD 0 : Nat)) := by
  have hi := intsOf_map' (fun (k : Nat) => (k : Int)) l
  have hm := minI_head l hs h
  cases l with
  | nil => exact absurd rfl h
  | cons y ys => exact (show bi "min" [.list ((y :: ys).map fun (k : Nat) => PyData.int (k : Int))] = (match intsOf ((y :: ys).map fun (k : Nat) => PyData.int (k : Int)) with
      | some (n :: ns) => pure (.int (minI (n :: ns)))
      | _ => fail) from rfl).trans (by rw [hi, ← hm]; rfl)
theorem get_headN {l : List Nat} (h : l ≠ []) : getD' (.list (l.map fun (k : Nat) => PyData.int (k : Int))) (.int 0) = pure (.int (l.headD 0 : Nat)) := by
  cases l with
  | nil => exact absurd rfl h
  | cons y ys => simp
theorem get_lastN {l : List Nat} (h : l ≠ []) : getD' (.list (l.map fun (k : Nat) => PyData.int (k : Int))) (.int (-1)) = pure (.int (l.getLastD 0 : Nat)) := by
  refine getL_last ?_
  rw [List.getLast?_map]
  obtain ⟨ys, z, rfl⟩ := snoc_of (by cases l with | nil => exact absurd rfl h | cons => simp : 1 ≤ l.length)
  simp
theorem compS_items (items : M (List D)) (b : D → Option St) (f : St → M Bool) (g : St → M D) : compS items b f g = (items >>= fun ds => compS (pure ds) b f g) := rfl
theorem getT_N {xs : List Int} {i : Nat} (h : i < xs.length) : getD' (.tuple (xs.map .int)) (.int (i : Int)) = pure (.int (ix xs i)) := getT_ix (by omega) (by omega)
theorem sSub_add {σ : St} {l i : Nat} {xs : List Int} {v : Int} (h : σ[l]? = some (some (.list (xs.map .int), true))) (hi : i < xs.length) :
    sSub σ l (pure (.int (i : Int))) (pure (.int (ix xs i + v))) = pure (.nx (σ.set l (some (.list ((addAt xs i v).map .int), true)))) := sSub_own h hi
theorem sSub_sub {σ : St} {l i : Nat} {xs : List Int} {v : Int} (h : σ[l]? = some (some (.list (xs.map .int), true))) (hi : i < xs.length) :
    sSub σ l (pure (.int (i : Int))) (pure (.int (ix xs i - v))) = pure (.nx (σ.set l (some (.list ((addAt xs i (-v)).map .int), true)))) := by
  rw [Int.sub_eq_add_neg]
  exact sSub_add h hi
theorem strp_pre (xs : List Int) : ∃ m, xs = strp xs ++ List.replicate m 0 := by
  suffices h : ∀ ys : List Int, ∃ m, ys = List.replicate m 0 ++ ys.dropWhile (· == 0) by
    obtain ⟨m, hm⟩ := h xs.reverse
    refine ⟨m, ?_⟩
    have := congrArg List.reverse hm
    rw [List.reverse_reverse, List.reverse_append, List.reverse_replicate] at this
    exact this
  intro ys
  induction ys with
  | nil => exact ⟨0, rfl⟩
  | cons y ys ih =>
    obtain ⟨m, hm⟩ := ih
    by_cases h : y = 0
    · subst h
      exact ⟨m + 1, by rw [List.dropWhile_cons_of_pos (by simp), List.replicate_succ, List.cons_append, ← hm]⟩
    · exact ⟨0, by rw [List.dropWhile_cons_of_neg (by simpa using h)]; rfl⟩
theorem strp_mem {xs : List Int} {x : Int} (h : x ∈ strp xs) : x ∈ xs := by
  obtain ⟨m, hm⟩ := strp_pre xs
  rw [hm]
  exact List.mem_append_left _ h
theorem mem_strp {xs : List Int} {x : Int} (h : x ∈ xs) (h0 : x ≠ 0) : x ∈ strp xs := by
  obtain ⟨m, hm⟩ := strp_pre xs
  rw [hm] at h
  rcases List.mem_append.mp h with h | h
  · exact h
  · exact absurd (List.eq_of_mem_replicate h) h0
theorem strp_last {xs ys : List Int} {z : Int} (h : strp xs = ys ++ [z]) : z ≠ 0 := by
  have h2 : xs.reverse.dropWhile (· == 0) = z :: ys.reverse := by
    have := congrArg List.reverse h
    unfold strp at this
    rw [List.reverse_reverse] at this
    rw [this]
    simp
  intro e
  have := List.head?_dropWhile_not (fun x : Int => x == 0) xs.reverse
  rw [h2] at this
  simp [e] at this
@[simp] theorem fl_id (r : Res Flow) : Res.fl r (fun σ => pure (Flow.nx σ)) = r := by
  cases r with
  | ok f s => cases f <;> rfl
  | exc => rfl
  | fail => rfl
theorem comp2S_map {α β : Type} {items : M (List D)} {bind : D → Option St} {it : St → M (List D)} {vs : List Nat} {bind2 : St → D → Option St} {g : St → M D} (xs : List α) (enc : α → D) (ys : α → List β) (enc2 : α → β → D) (h : α → β → D)
    (hi : items = pure (xs.map enc)) (hl : (xs.flatMap fun x => (ys x).map (h x)).length ≤ sline)
    (H : ∀ x ∈ xs, ∃ σ, bind (enc x) = some σ ∧ it σ = pure ((ys x).map (enc2 x)) ∧ ∀ y ∈ ys x, ∃ σ2, bind2 (wipe σ vs) (enc2 x y) = some σ2 ∧ g σ2 = pure (h x y)) :
    comp2S items bind (fun _ => pure true) it vs bind2 (fun _ => pure true) g = pure (.list (xs.flatMap fun x => (ys x).map (h x))) := by
  have key : ∀ xs : List α, (∀ x ∈ xs, ∃ σ, bind (enc x) = some σ ∧ it σ = pure ((ys x).map (enc2 x)) ∧ ∀ y ∈ ys x, ∃ σ2, bind2 (wipe σ vs) (enc2 x y) = some σ2 ∧ g σ2 = pure (h x y)) →
      compL2 bind (fun _ => pure true) it vs bind2 (fun _ => pure true) g (xs.map enc) = pure (xs.flatMap fun x => (ys x).map (h x)) := by
    intro xs
    induction xs with
    | nil => intro _; rfl
    | cons x xs ih =>
      intro H
      obtain ⟨σ, h1, h2, h3⟩ := H x (List.mem_cons_self ..)
      have e := compL_map (bind := fun e => bind2 (wipe σ vs) e) (f := fun _ => pure true) (g := g) (enc2 x) (h x) (fun _ => true) (ys x) fun y hy => by
        obtain ⟨σ2, k1, k2⟩ := h3 y hy
        exact ⟨σ2, k1, rfl, fun _ => k2⟩
      rw [List.filter_eq_self.mpr fun _ _ => rfl] at e
      rw [List.map_cons]
      unfold compL2
      rw [h1]
      show ((pure σ : M St) >>= _) = _
      rw [pure_bd, pure_bd, if_pos rfl, h2, pure_bd, e, pure_bd, ih fun y hy => H y (List.mem_cons_of_mem _ hy), pure_bd, List.flatMap_cons]
  unfold comp2S
  rw [hi, pure_bd, key xs H, quiet_pure, pure_bd, if_pos hl]
theorem flat_len {α : Type} (f : Nat → List α) (m : Nat) : ∀ l : List Nat, (∀ i ∈ l, (f i).length ≤ m) → (l.flatMap f).length ≤ l.length * m
  | [], _ => by simp
  | i :: l, h => by
    have := flat_len f m l fun j hj => h j (List.mem_cons_of_mem _ hj)
    have := h i (List.mem_cons_self ..)
    rw [List.flatMap_cons, List.length_append, List.length_cons, Nat.add_mul]
    omega
end Py

set_option Elab.async false
set_option linter.all false
set_option maxRecDepth 100000
namespace Py
open PySem
def S_is_whole (call : Str → List D → M D) (w : Nat) : List D → M D := runS ⟨false, false⟩ 1 1 fun σ =>
  thenF (sRet (frz σ [0]) (andS [(isiS (rd (frz σ [0]) 0) ("int" : Str)), (notS (isiS (rd (frz σ [0]) 0) ("bool" : Str)))]) false) fun σ =>
  sEnd σ

def S_common_c0 (call : Str → List D → M D) (w : Nat) (σ : St) : M D :=
  (cmp1 (rd σ 1) (pure (.int 0)) .NotEq)
def S_common_b1 (call : Str → List D → M D) (w : Nat) (σ : St) : M Flow :=
  thenF (sParN (frz σ [1]) [false, true] [(rdV (frz σ [1]) 1), (binS .Mod (rd (frz σ [1]) 0) (rd (frz σ [1]) 1))] [0, 1]) fun σ =>
  sEnd σ
def S_common (call : Str → List D → M D) (w : Nat) : List D → M D := runS ⟨false, false⟩ 2 2 fun σ =>
  thenF (sParN σ [false, false] [(biS ("abs" : Str) [(rd σ 0)]), (biS ("abs" : Str) [(rd σ 1)])] [0, 1]) fun σ =>
  thenF (sWhile (S_common_c0 call w) (S_common_b1 call w) (w + msr σ) σ) fun σ =>
  thenF (sRetN σ 0) fun σ =>
  sEnd σ

def S_lowest (call : Str → List D → M D) (w : Nat) : List D → M D := runS ⟨false, false⟩ 2 3 fun σ =>
  thenF (sAsg (frz σ [0, 1]) (callS call ("common" : Str) [(rdV (frz σ [0, 1]) 0), (rdV (frz σ [0, 1]) 1)]) 2 false) fun σ =>
  thenF (sIf σ (cmp1 (rd σ 1) (pure (.int 0)) .Lt)
  (thenF (sAsg (frz σ [2]) (negS (rdV (frz σ [2]) 2)) 2 false) fun σ =>
    sEnd σ)
  (sEnd σ)) fun σ =>
  thenF (sRet (frz σ [0, 1, 2]) (tupS [(binS .FloorDiv (rd (frz σ [0, 1, 2]) 0) (rd (frz σ [0, 1, 2]) 2)), (binS .FloorDiv (rd (frz σ [0, 1, 2]) 1) (rd (frz σ [0, 1, 2]) 2))]) false) fun σ =>
  sEnd σ

def S_is_draw_e0 (call : Str → List D → M D) (w : Nat) (σ : St) : M D :=
  (andS [(callS call ("is_whole" : Str) [(rdV σ 1)]), (cmp2 (pure (.int 0)) (rd σ 1) (pure (.int 1000000)) .LtE .LtE)])
def S_is_draw (call : Str → List D → M D) (w : Nat) : List D → M D := runS ⟨false, false⟩ 1 2 fun σ =>
  thenF (sIf σ (orS [(notS (isiS (rd σ 0) ("tuple" : Str))), (notS (cmp2 (pure (.int 1)) (biS ("len" : Str) [(rd σ 0)]) (pure (.int 30)) .LtE .LtE))])
  (thenF (sRet (frz σ [0]) (pure (.bool false)) false) fun σ =>
    sEnd σ)
  (sEnd σ)) fun σ =>
  thenF (sRet (frz σ [0]) (andS [(biS ("all" : Str) [(compS (dataI (rd (frz σ [0]) 0)) (fun d => bindG (.one 1) (wipe (frz σ [0]) [1]) d) (fun _ => pure true) (S_is_draw_e0 call w))]), (cmp1 (ixS (rd (frz σ [0]) 0) (negS (pure (.int 1)))) (pure (.int 0)) .Gt)]) false) fun σ =>
  sEnd σ

def S_check_draw (call : Str → List D → M D) (w : Nat) : List D → M D := runS ⟨false, false⟩ 1 1 fun σ =>
  thenF (sIf σ (notS (callS call ("is_draw" : Str) [(rdV σ 0)]))
  (thenF (sRaise ("Malformed" : Str) σ) fun σ =>
    sEnd σ)
  (sEnd σ)) fun σ =>
  sEnd σ

def S__law_fraction_c0 (call : Str → List D → M D) (w : Nat) (σ : St) : M D :=
  (cmp1 (rd σ 3) (pure (.int 0)) .NotEq)
def S__law_fraction_b1 (call : Str → List D → M D) (w : Nat) (σ : St) : M Flow :=
  thenF (sParN (frz σ [3]) [false, true] [(rdV (frz σ [3]) 3), (binS .Mod (biS ("int" : Str) [(rd (frz σ [3]) 2)]) (rd (frz σ [3]) 3))] [2, 3]) fun σ =>
  sEnd σ
def S__law_fraction (call : Str → List D → M D) (w : Nat) : List D → M D := runS ⟨false, false⟩ 2 4 fun σ =>
  thenF (sParN σ [false, false] [(biS ("abs" : Str) [(rd σ 0)]), (biS ("abs" : Str) [(rd σ 1)])] [2, 3]) fun σ =>
  thenF (sWhile (S__law_fraction_c0 call w) (S__law_fraction_b1 call w) (w + msr σ) σ) fun σ =>
  thenF (sRet (frz σ [0, 1, 2, 3]) (ifeS (cmp1 (rd (frz σ [0, 1, 2, 3]) 1) (pure (.int 0)) .Gt) (tupS [(binS .FloorDiv (rd (frz σ [0, 1, 2, 3]) 0) (rd (frz σ [0, 1, 2, 3]) 2)), (binS .FloorDiv (rd (frz σ [0, 1, 2, 3]) 1) (rd (frz σ [0, 1, 2, 3]) 2))]) (tupS [(binS .FloorDiv (negS (rdV (frz σ [0, 1, 2, 3]) 0)) (rd (frz σ [0, 1, 2, 3]) 2)), (binS .FloorDiv (negS (rdV (frz σ [0, 1, 2, 3]) 1)) (rd (frz σ [0, 1, 2, 3]) 2))])) false) fun σ =>
  sEnd σ

def S__law_dice_b0 (call : Str → List D → M D) (w : Nat) (σ : St) : M Flow :=
  thenF (sApp σ 3 (ifeS (cmp1 (callF call ("_law_take" : Str) [(rd σ 0), (pure (.int 3))]) (pure (.int 0)) .Eq) (pure (.int 0)) (binS .Add (callF call ("_law_take" : Str) [(rd σ 0), (rd σ 2)]) (pure (.int 1))))) fun σ =>
  sEnd σ
def S__law_dice (call : Str → List D → M D) (w : Nat) : List D → M D := runS ⟨false, false⟩ 3 5 fun σ =>
  thenF (sAsg σ (lstS []) 3 true) fun σ =>
  thenF (sFor σ (iterS ("range" : Str) [(binS .Add (pure (.int 1)) (callF call ("_law_take" : Str) [(rd σ 0), (rd σ 1)]))]) (.one 4) (S__law_dice_b0 call w)) fun σ =>
  thenF (sIf σ (cmp1 (ixS (rd σ 3) (negS (pure (.int 1)))) (pure (.int 0)) .Eq)
  (thenF (sSub σ 3 (negS (pure (.int 1))) (binS .Add (pure (.int 1)) (callF call ("_law_take" : Str) [(rd σ 0), (rd σ 2)]))) fun σ =>
    sEnd σ)
  (sEnd σ)) fun σ =>
  thenF (sRet (frz σ [0, 1, 2, 3, 4]) (biS ("tuple" : Str) [(rd (frz σ [0, 1, 2, 3, 4]) 3)]) false) fun σ =>
  sEnd σ

def S__law_bad_dice (call : Str → List D → M D) (w : Nat) : List D → M D := runS ⟨false, false⟩ 2 3 fun σ =>
  thenF (sAsg (frz σ [1]) (lstS [(pure (.none)), (tupS []), (pure (.int 5)), (biS ("list" : Str) [(rd (frz σ [1]) 1)]), (binS .Add (rd (frz σ [1]) 1) (tupS [(pure (.int 0))])), (tupS [(pure (.int 0)), (pure (.int 0))]), (tupS [(pure (.int 0))]), (binS .Add (tupS [(negS (pure (.int 1)))]) (rd (frz σ [1]) 1)), (binS .Add (tupS [(pure (.bool true))]) (rd (frz σ [1]) 1)), (tupS [(pure (.int 1000001))]), (binS .Mult (tupS [(pure (.int 1))]) (pure (.int 31))), (binS .Add (slS (rd (frz σ [1]) 1) none (some (negS (pure (.int 1))))) (tupS [(pure (.none))])), (tupS [(pure (.str "1"))]), (tupS [(rdV (frz σ [1]) 1)])]) 2 true) fun σ =>
  thenF (sRet (frz σ [0, 1, 2]) (ixS (rd (frz σ [0, 1, 2]) 2) (callF call ("_law_take" : Str) [(rd (frz σ [0, 1, 2]) 0), (pure (.int 14))])) false) fun σ =>
  sEnd σ

/-! what the defs do -/
def isWh : D → Bool
  | .int _ => true
  | _ => false
def Sp_is_whole (f : List D → M D) : Prop := ∀ d, noD d = true → f [d] = pure (.bool (isWh d))
theorem s_is_whole {call : Str → List D → M D} {w : Nat} : Sp_is_whole (S_is_whole call w) := by
  intro d hd
  cases d with
  | dict => cases hd
  | _ => rfl
theorem gcd_loop {c : St → M D} {b : St → M Flow} (st : D → D → St) (hc : ∀ i j : Int, c (st (.int i) (.int j)) = pure (.bool (!decide (j = 0))))
    (hb : ∀ i j : Int, 0 < j → b (st (.int i) (.int j)) = pure (.nx (st (.int j) (.int (i % j))))) : ∀ (n : Nat) (x y : Nat), y < n → sWhile c b n (st (.int x) (.int y)) = pure (.nx (st (.int (Nat.gcd x y)) (.int 0)))
  | 0, x, y, h => absurd h (Nat.not_lt_zero _)
  | n + 1, x, y, h => by
    unfold sWhile whileL
    rw [hc]
    by_cases h0 : y = 0
    · subst h0
      simp
    · have ih := gcd_loop st hc hb n y (x % y) (by have := Nat.mod_lt x (Nat.pos_of_ne_zero h0); omega)
      have hg : Nat.gcd x y = Nat.gcd y (x % y) := by rw [Nat.gcd_comm x y, Nat.gcd_rec, Nat.gcd_comm]
      unfold sWhile at ih
      have e : ((y : Nat) : Int) ≠ 0 := by omega
      simp only [tstS_bool, stE_pure, e, decide_false, Bool.not_false, if_true]
      rw [hb _ _ (by omega), hg, ← ih]
      rfl
theorem absN (a : Int) : (if a < 0 then -a else a) = ((a.natAbs : Nat) : Int) := by split <;> omega
def Sp_common (f : List D → M D) : Prop := ∀ a b : Int, f [.int a, .int b] = pure (.int (Int.gcd a b))
theorem s_common {call : Str → List D → M D} {w : Nat} (hw : 1 ≤ w) : Sp_common (S_common call w) := by
  intro a b
  unfold S_common
  rw [runS_2]
  have hl := gcd_loop (c := S_common_c0 call w) (b := S_common_b1 call w) (fun x y => [some (x, false), some (y, false)]) (fun i j => by simp [S_common_c0]) (fun i j h => by simp [S_common_b1, binop_mod h]) (w + (a.natAbs + b.natAbs)) a.natAbs b.natAbs (by omega)
  have hm : msr [some (.int a.natAbs, false), some (.int b.natAbs, false)] = a.natAbs + b.natAbs := by simp [msr]
  simp [startN, biS, absN, hm, hl, sRetN, ownI, rdV]
  rfl
/-- a fraction in least terms -/
def frN (n d : Int) : Int := d.sign * (n / Int.gcd n d)
def frM (n d : Int) : Int := d.natAbs / Int.gcd n d
def frD (n d : Int) : D := .tuple [.int (frN n d), .int (frM n d)]
theorem gcd_pos {n d : Int} (h : d ≠ 0) : 0 < ((Int.gcd n d : Nat) : Int) := by
  have := Int.gcd_pos_of_ne_zero_right n h
  omega
theorem gcd_bt {n d : Int} {k : Nat} (h : d ≠ 0) (hb : Bt k d) : Bt k (Int.gcd n d : Nat) := by
  unfold Bt at *
  have : Int.gcd n d ≤ d.natAbs := Nat.le_of_dvd (by omega) (Int.gcd_dvd_natAbs_right n d)
  omega
theorem fdiv_neg_gcd {x g : Int} (hg : 0 < g) (hd : g ∣ x) : x.fdiv (-g) = -(x / g) := by
  obtain ⟨c, rfl⟩ := hd
  have h1 : g * c = (-g) * (-c) := by rw [Int.neg_mul_neg]
  rw [Int.mul_ediv_cancel_left _ (by omega)]
  rw [h1, Int.mul_fdiv_cancel_left _ (by omega)]
def Sp_lowest (f : List D → M D) : Prop := ∀ n d : Int, d ≠ 0 → Bt 8000 d → f [.int n, .int d] = pure (frD n d)
theorem s_lowest {call : Str → List D → M D} {w : Nat} (hc : Sp_common (call "common")) : Sp_lowest (S_lowest call w) := by
  intro n d h0 hb
  have hg := gcd_pos (n := n) h0
  have hgb := gcd_bt (n := n) h0 hb
  unfold S_lowest
  rw [runS_2]
  by_cases hd : d < 0
  · simp [startN, callS, hc n d, hd, tupS, bdivN (by omega : -((Int.gcd n d : Nat) : Int) < 0) hgb.neg, sline, frD, frN, frM]
    rw [fdiv_neg_gcd hg (Int.gcd_dvd_left n d), fdiv_neg_gcd hg (Int.gcd_dvd_right n d), Int.sign_eq_neg_one_of_neg hd]
    congr 4
    · omega
    · have : ((d.natAbs : Nat) : Int) = -d := by omega
      rw [this, Int.neg_ediv_of_dvd (Int.gcd_dvd_right n d)]
  · simp [startN, callS, hc n d, hd, tupS, bdiv hg hgb, sline, frD, frN, frM]
    rw [Int.sign_eq_one_of_pos (by omega)]
    have : ((d.natAbs : Nat) : Int) = d := by omega
    rw [this, Int.one_mul]
def Sp__law_fraction (f : List D → M D) : Prop := ∀ n d : Int, d ≠ 0 → Bt 8000 d → f [.int n, .int d] = pure (frD n d)
theorem s__law_fraction {call : Str → List D → M D} {w : Nat} (hw : 1 ≤ w) : Sp__law_fraction (S__law_fraction call w) := by
  intro n d h0 hb
  have hg := gcd_pos (n := n) h0
  have hgb := gcd_bt (n := n) h0 hb
  unfold S__law_fraction
  rw [runS_2]
  have hl := gcd_loop (c := S__law_fraction_c0 call w) (b := S__law_fraction_b1 call w) (fun x y => [some (.int n, false), some (.int d, false), some (x, false), some (y, false)]) (fun i j => by simp [S__law_fraction_c0]) (fun i j h => by simp [S__law_fraction_b1, binop_mod h, biS]) (w + (n.natAbs + (d.natAbs + (n.natAbs + d.natAbs)))) n.natAbs d.natAbs (by omega)
  have hm : msr [some (.int n, false), some (.int d, false), some (.int n.natAbs, false), some (.int d.natAbs, false)] = n.natAbs + (d.natAbs + (n.natAbs + d.natAbs)) := by simp [msr]
  have hgg : Nat.gcd n.natAbs d.natAbs = Int.gcd n d := rfl
  by_cases hd : 0 < d
  · simp [startN, biS, absN, hm, hl, hd, hgg, tupS, bdiv hg hgb, sline, frD, frN, frM]
    rw [Int.sign_eq_one_of_pos (by omega)]
    have : ((d.natAbs : Nat) : Int) = d := by omega
    rw [this, Int.one_mul]
  · simp [startN, biS, absN, hm, hl, hd, hgg, tupS, bdiv hg hgb, sline, frD, frN, frM]
    rw [Int.sign_eq_neg_one_of_neg (by omega)]
    congr 4
    · rw [Int.neg_ediv_of_dvd (Int.gcd_dvd_left n d)]
      omega
    · have : ((d.natAbs : Nat) : Int) = -d := by omega
      rw [this]
/-- is it a weight -/
def okW : D → Bool
  | .int i => decide (0 ≤ i) && decide (i ≤ 1000000)
  | _ => false
def lastPos (ds : List D) : Bool := match ds.getLast? with
  | some (.int i) => decide (0 < i)
  | _ => false
def isDraw : D → Bool
  | .tuple ds => (decide (1 ≤ ds.length) && decide (ds.length ≤ 30)) && (ds.all okW && lastPos ds)
  | _ => false
def Sp_is_draw (f : List D → M D) : Prop := ∀ d, nod d = true → f [d] = pure (.bool (isDraw d))
def isTD : D → Bool
  | .tuple _ => true
  | _ => false
@[simp] theorem isTD_tuple (ds : List D) : isTD (.tuple ds) = true := rfl
theorem isiS_tuple {d : D} (h : noD d = true) : isiS (pure d) "tuple" = pure (.bool (isTD d)) := by
  cases d with
  | dict => cases h
  | _ => rfl
theorem s_is_draw {call : Str → List D → M D} {w : Nat} (hc : Sp_is_whole (call "is_whole")) : Sp_is_draw (S_is_draw call w) := by
  intro d hd
  unfold S_is_draw
  rw [runS_1]
  have hi := isiS_tuple (nod_noD hd)
  cases d with
  | tuple ds =>
    simp only [startN, List.map_cons, List.map_nil, List.cons_append, List.nil_append, rd_zero, hi]
    by_cases hl : 1 ≤ ds.length ∧ ds.length ≤ 30
    · have h1 : (1 : Int) ≤ (ds.length : Int) := by omega
      have h2 : (ds.length : Int) ≤ 30 := by omega
      simp [biS, h1, h2]
      rw [compS_map ds id (fun d => .bool (okW d)) (by simp) (by unfold sline; omega) fun d hd' => ⟨_, rfl, by
        have hn := nods_mem (by simpa using hd) hd'
        simp [S_is_draw_e0, callS, hc d (nod_noD hn)]
        cases d <;> simp [isWh, okW, ite_pure, ite_dbool]⟩]
      by_cases ha : ds.all okW = true
      · obtain ⟨e, he⟩ : ∃ e, ds.getLast? = some e := by
          cases h : ds.getLast? with
          | some e => exact ⟨e, rfl⟩
          | none => rw [List.getLast?_eq_none_iff] at h; subst h; simp at hl
        have hw := List.all_eq_true.mp ha e (List.mem_of_getLast? he)
        cases e with
        | int i => simp [ha, getT_last he, isDraw, hl, lastPos, he]
        | _ => simp [okW] at hw
      · simp [ha, isDraw, hl]
    · have hf : (decide (1 ≤ ds.length) && decide (ds.length ≤ 30)) = false := by simp; omega
      simp only [isDraw, hf, Bool.false_and]
      by_cases h1 : (1 : Int) ≤ (ds.length : Int)
      · simp [biS, h1, (by omega : (30 : Int) < (ds.length : Int))]
      · simp [biS, h1]
  | _ => simp [startN, hi, isDraw, isTD]
def Sp_check_draw (f : List D → M D) : Prop := ∀ d, nod d = true → f [d] = if isDraw d = true then pure .none else throwX ⟨"Malformed", []⟩
theorem s_check_draw {call : Str → List D → M D} {w : Nat} (hc : Sp_is_draw (call "is_draw")) : Sp_check_draw (S_check_draw call w) := by
  intro d hd
  unfold S_check_draw
  rw [runS_1]
  cases h : isDraw d <;> simp [startN, callS, hc d hd, h]
/-- a drawn row of weights -/
structure Dice (n wt : Int) (xs : List Int) : Prop where
  one : 1 ≤ xs.length
  most : (xs.length : Int) ≤ n
  wt : ∀ x ∈ xs, 0 ≤ x ∧ x ≤ wt
  last : ∃ x, xs.getLast? = some x ∧ 0 < x
def Sp__law_dice (f : List D → M D) : Prop := ∀ (n wt : Int) (s : DS), OkS s → 1 ≤ n → n ≤ 1000 → 1 ≤ wt → wt ≤ 1000000 → (f [tok, .int n, .int wt] s).sat fun d s' => ∃ xs, d = tupD xs ∧ Dice n wt xs ∧ OkS s'
theorem s__law_dice {call : Str → List D → M D} {w : Nat} (ht : call "_law_take" = takeP) : Sp__law_dice (S__law_dice call w) := by
  intro n wt s hs n1 n2 w1 w2
  unfold S__law_dice
  rw [runS_3]
  have hn : 0 < n := by omega
  have hn' : n < 2 ^ 64 := by omega
  have hw : 0 < wt := by omega
  have hw' : wt < 2 ^ 64 := by omega
  have g0 := tv_lo (s := s) hn
  have g1 := tv_hi (s := s) hn
  have hr : in62 (1 + tv n s) = true := in62_of (by omega) (by omega)
  have lp := forL_at (fun (i : Nat) => PyData.int (0 + (i : Int))) (bind := bindG (.one 4)) (b := S__law_dice_b0 call w) (List.range (1 + tv n s).toNat)
    (fun k σ s => OkS s ∧ ∃ (xs : List Int) (kk : Sl), σ = [some (tok, false), some (.int n, false), some (.int wt, false), some (.list (xs.map .int), true), kk] ∧ xs.length = k ∧ ∀ x ∈ xs, 0 ≤ x ∧ x ≤ wt)
    (fun k x σ s hk ⟨hs, xs, kk, e1, e2, e3⟩ => by
      subst e1
      have hk' : xs.length < sline := by
        have := (List.getElem?_eq_some_iff.mp hk).1
        simp at this
        unfold sline
        omega
      refine ⟨_, rfl, ?_⟩
      by_cases h : tv 3 s = 0
      · simp [S__law_dice_b0, sApp, ownI, stE_at, ifeS, tstS, cmp1, binS, bd_at, take_callF ht hs, h, thenF_at, asBool, hk']
        refine ⟨OkS_ts hs, xs ++ [0], by simp, by simp [e2], fun x hx => ?_⟩
        rcases List.mem_append.mp hx with hx | hx
        · exact e3 x hx
        · simp at hx; omega
      · have g0 := tv_lo (s := ts 3 s) hw
        have g1 := tv_hi (s := ts 3 s) hw
        simp [S__law_dice_b0, sApp, ownI, stE_at, ifeS, tstS, cmp1, binS, bd_at, take_callF ht hs, take_callF ht (OkS_ts hs) hw hw', h, thenF_at, asBool, hk']
        refine ⟨OkS_ts (OkS_ts hs), xs ++ [tv wt (ts 3 s) + 1], by simp, by simp [e2], fun x hx => ?_⟩
        rcases List.mem_append.mp hx with hx | hx
        · exact e3 x hx
        · simp at hx; omega) (σ := [some (tok, false), some (.int n, false), some (.int wt, false), some (.list [], true), none]) (s := ts n s) ⟨OkS_ts hs, [], none, rfl, rfl, by simp⟩
  obtain ⟨fl, s', e, h⟩ := lp.ex
  cases fl with
  | nx σ' =>
    obtain ⟨hs', xs, kk, rfl, e2, e3⟩ := h
    have hx : xs.length = (1 + tv n s).toNat := by simpa using e2
    simp [startN, sline, bd_at, stE_at, thenF_at, quiet_at, ifeS, tstS, cmp1, cmp2, binS, ixS, slS, optS, biS, callS, lstS, tupS, iterS, evsS_cons, asBool, asInt, sFor, sAsg, sIf, sRet, sExp, sTup, negS, notS, andS, orS, take_callF ht hs hn hn', iterC_range1 hr, rangeD_eq] at e ⊢
    simp [e]
    obtain ⟨ys, z, rfl⟩ := snoc_of (by omega : 1 ≤ xs.length)
    simp at hx e3
    have hz := e3 z (.inr rfl)
    have hys : ∀ x ∈ ys, 0 ≤ x ∧ x ≤ wt := fun x h => e3 x (.inl h)
    simp
    by_cases h0 : z = 0
    · have g2 := tv_lo (s := s') hw
      have g3 := tv_hi (s := s') hw
      have hsub : L2.ixN (ys.length + 1) (-1) = some ys.length := ixN_neg1 (by omega)
      have hset : (List.map PyData.int ys ++ [PyData.int 0]).set ys.length (.int (1 + tv wt s')) = List.map PyData.int ys ++ [PyData.int (1 + tv wt s')] := by
        have := set_snoc (List.map PyData.int ys) (PyData.int 0) (.int (1 + tv wt s'))
        rwa [List.length_map] at this
      simp [h0, bd_at, stE_at, thenF_at, quiet_at, ifeS, tstS, cmp1, cmp2, binS, ixS, slS, optS, biS, callS, lstS, tupS, iterS, evsS_cons, asBool, asInt, sFor, sAsg, sIf, sRet, sExp, sTup, negS, notS, andS, orS, sSub, ownI, take_callF ht hs' hw hw', hsub, hset]
      refine ⟨ys ++ [1 + tv wt s'], by simp, ⟨by simp, by simp; omega, fun x h => ?_, ⟨1 + tv wt s', by simp, by omega⟩⟩, OkS_ts hs'⟩
      simp at h
      rcases h with h | h
      · exact hys x h
      · omega
    · simp [h0, bd_at, stE_at, thenF_at, quiet_at, ifeS, tstS, cmp1, cmp2, binS, ixS, slS, optS, biS, callS, lstS, tupS, iterS, evsS_cons, asBool, asInt, sFor, sAsg, sIf, sRet, sExp, sTup, negS, notS, andS, orS]
      refine ⟨ys ++ [z], by simp, ⟨by simp, by simp; omega, fun x h => ?_, ⟨z, by simp, by omega⟩⟩, hs'⟩
      simp at h
      rcases h with h | h
      · exact hys x h
      · omega
  | _ => exact h.elim
theorem Dice.tup_ne {n wt : Int} {xs : List Int} (h : Dice n wt xs) : xs ≠ [] := by
  intro e
  subst e
  have := h.one
  simp at this
def Sp__law_bad_dice (f : List D → M D) : Prop := ∀ (n wt : Int) (xs : List Int) (s : DS), OkS s → Dice n wt xs → n ≤ 1000 → (f [tok, tupD xs] s).sat fun d s' => nod d = true ∧ isDraw d = false ∧ OkS s'
theorem s__law_bad_dice {call : Str → List D → M D} {w : Nat} (ht : call "_law_take" = takeP) : Sp__law_bad_dice (S__law_bad_dice call w) := by
  intro n wt xs s hs hx hn
  have hl : xs.length ≤ 1000 := by have := hx.most; omega
  have g0 := tv_lo (n := 14) (s := s) (by decide)
  have g1 := tv_hi (n := 14) (s := s) (by decide)
  unfold S__law_bad_dice
  rw [runS_2]
  have hb1 : ∀ {a b : List D}, a.length + b.length ≤ 10000 → binop .Add (.tuple a) (.tuple b) = pure (.tuple (a ++ b)) := fun h => binop_addT (by unfold sline; omega)
  have e1 : binop .Add (tupD xs) (.tuple [.int 0]) = _ := hb1 (by simp; omega)
  have e2 : binop .Add (.tuple [.int (-1)]) (tupD xs) = _ := hb1 (by simp; omega)
  have e3 : binop .Add (.tuple [.bool true]) (tupD xs) = _ := hb1 (by simp; omega)
  have e4 : binop .Add (.tuple (xs.map PyData.int).dropLast) (.tuple [.none]) = _ := hb1 (by simp; omega)
  have hn1 : nods (xs.map PyData.int).dropLast = true := by
    rw [nods_all, List.all_eq_true]
    exact fun d hd => nods_mem (nods_ints xs) ((List.dropLast_sublist _).mem hd)
  simp [-List.reduceReplicate, startN, lstS, tupS, sline, e1, e2, e3, e4, binop_mulT, slS, cut_neg1, biS, bd_at, quiet_at, thenF_at, stE_at, sRet, ixS, evsS_cons, take_callF ht hs, getL_sel g0, g1, OkS_ts hs]
  refine sel_all (P := fun d => nod d = true ∧ isDraw d = false) g0 (by simpa using g1) ?_
  simp [-List.reduceReplicate, isDraw, okW, lastPos, hn1]
theorem sum_nn : ∀ {xs : List Int}, (∀ x ∈ xs, 0 ≤ x) → 0 ≤ xs.sum
  | [], _ => by simp
  | x :: xs, h => by
    have h1 := h x (List.mem_cons_self ..)
    have h2 := sum_nn fun y hy => h y (List.mem_cons_of_mem _ hy)
    rw [List.sum_cons]
    omega
/-- a row of weights -/
structure IsDr (xs : List Int) : Prop where
  one : 1 ≤ xs.length
  most : xs.length ≤ 30
  wt : ∀ x ∈ xs, 0 ≤ x ∧ x ≤ 1000000
  last : ∃ x, xs.getLast? = some x ∧ 0 < x
theorem IsDr.sum {xs : List Int} (h : IsDr xs) : 0 < xs.sum := by
  obtain ⟨ys, z, rfl⟩ := snoc_of h.one
  obtain ⟨x, hx, h0⟩ := h.last
  simp at hx
  subst hx
  rw [List.sum_append]
  have := sum_nn fun y hy => (h.wt y (List.mem_append_left _ hy)).1
  simp
  omega
theorem IsDr.bt {xs : List Int} (h : IsDr xs) {x : Int} (hx : x ∈ xs) : Bt 20 x := by
  have := h.wt x hx
  exact Bt.of_lt (by omega) (by omega)
theorem IsDr.sumBt {xs : List Int} (h : IsDr xs) : Bt 25 xs.sum := Bt.sum (n := 20) (m := 5) (by have := h.most; omega) fun x hx => h.bt hx
theorem Dice.dr {n wt : Int} {xs : List Int} (h : Dice n wt xs) (hn : n ≤ 30) (hw : wt ≤ 1000000) : IsDr xs := ⟨h.one, by have := h.most; omega, fun x hx => ⟨(h.wt x hx).1, by have := (h.wt x hx).2; omega⟩, h.last⟩
theorem IsDr.is {xs : List Int} (h : IsDr xs) : isDraw (tupD xs) = true := by
  obtain ⟨x, h1, h2⟩ := h.last
  simp [isDraw, h.one, h.most, lastPos, h1, h2, okW]
  exact h.wt
theorem isDraw_of {d : D} (h : isDraw d = true) : ∃ xs : List Int, d = tupD xs ∧ IsDr xs := by
  cases d with
  | tuple ds =>
    simp [isDraw] at h
    obtain ⟨⟨h1, h2⟩, h3, h4⟩ := h
    obtain ⟨xs, rfl⟩ : ∃ xs : List Int, ds = xs.map .int := by
      clear h1 h2 h4
      induction ds with
      | nil => exact ⟨[], rfl⟩
      | cons e ds ih =>
        obtain ⟨xs, rfl⟩ := ih fun x hx => h3 x (List.mem_cons_of_mem _ hx)
        have := h3 e (List.mem_cons_self ..)
        cases e with
        | int i => exact ⟨i :: xs, rfl⟩
        | _ => simp [okW] at this
    simp at h1 h2 h3
    refine ⟨xs, rfl, h1, h2, fun x hx => by have := h3 x hx; simpa [okW] using this, ?_⟩
    unfold lastPos at h4
    rw [List.getLast?_map] at h4
    cases e : xs.getLast? with
    | none => rw [e] at h4; simp at h4
    | some x => rw [e] at h4; simp at h4; exact ⟨x, rfl, h4⟩
  | _ => simp [isDraw] at h
end Py

set_option Elab.async false
set_option linter.all false
set_option maxRecDepth 100000
namespace Py
open PySem
def S_tails_b0 (call : Str → List D → M D) (w : Nat) (σ : St) : M Flow :=
  thenF (sAug σ 2 .Add (rdV σ 3)) fun σ =>
  thenF (sApp (frz σ [2]) 1 (rdV (frz σ [2]) 2)) fun σ =>
  sEnd σ
def S_tails (call : Str → List D → M D) (w : Nat) : List D → M D := runS ⟨false, false⟩ 1 4 fun σ =>
  thenF (sParN σ [true, false] [(lstS []), (pure (.int 0))] [1, 2]) fun σ =>
  thenF (sFor σ (dataI (revS (rd σ 0))) (.one 3) (S_tails_b0 call w)) fun σ =>
  thenF (sRet (frz σ [0, 1, 2, 3]) (revS (rd (frz σ [0, 1, 2, 3]) 1)) true) fun σ =>
  sEnd σ

def S_heads_b0 (call : Str → List D → M D) (w : Nat) (σ : St) : M Flow :=
  thenF (sAug σ 2 .Add (rdV σ 3)) fun σ =>
  thenF (sApp (frz σ [2]) 1 (rdV (frz σ [2]) 2)) fun σ =>
  sEnd σ
def S_heads (call : Str → List D → M D) (w : Nat) : List D → M D := runS ⟨false, false⟩ 1 4 fun σ =>
  thenF (sParN σ [true, false] [(lstS []), (pure (.int 0))] [1, 2]) fun σ =>
  thenF (sFor (frz (frz σ [0]) [0]) (dataI (rdV (frz (frz σ [0]) [0]) 0)) (.one 3) (S_heads_b0 call w)) fun σ =>
  thenF (sRetN σ 1) fun σ =>
  sEnd σ

def S_common_rows_e0 (call : Str → List D → M D) (w : Nat) (σ : St) : M D :=
  (binS .Mult (rd σ 7) (rd σ 4))
def S_common_rows_e1 (call : Str → List D → M D) (w : Nat) (σ : St) : M D :=
  (binS .Mult (rd σ 7) (rd σ 3))
def S_common_rows (call : Str → List D → M D) (w : Nat) : List D → M D := runS ⟨false, false⟩ 2 8 fun σ =>
  thenF (sAsg σ (biS ("max" : Str) [(biS ("len" : Str) [(rd σ 0)]), (biS ("len" : Str) [(rd σ 1)])]) 2 false) fun σ =>
  thenF (sTup σ (tupS [(biS ("sum" : Str) [(rd σ 0)]), (biS ("sum" : Str) [(rd σ 1)])]) (.many [3, 4])) fun σ =>
  thenF (sAsg σ (binS .Add (compS (dataI (rd σ 0)) (fun d => bindG (.one 7) (wipe σ [7]) d) (fun _ => pure true) (S_common_rows_e0 call w)) (binS .Mult (lstS [(pure (.int 0))]) (binS .Sub (rd σ 2) (biS ("len" : Str) [(rd σ 0)])))) 5 true) fun σ =>
  thenF (sAsg σ (binS .Add (compS (dataI (rd σ 1)) (fun d => bindG (.one 7) (wipe σ [7]) d) (fun _ => pure true) (S_common_rows_e1 call w)) (binS .Mult (lstS [(pure (.int 0))]) (binS .Sub (rd σ 2) (biS ("len" : Str) [(rd σ 1)])))) 6 true) fun σ =>
  thenF (sRet (frz σ [0, 1, 2, 3, 4, 5, 6]) (tupS [(rdV (frz σ [0, 1, 2, 3, 4, 5, 6]) 5), (rdV (frz σ [0, 1, 2, 3, 4, 5, 6]) 6)]) false) fun σ =>
  sEnd σ

/-- the sums from each place on -/
def tl : List Int → List Int
  | [] => []
  | x :: xs => (x :: xs).sum :: tl xs
theorem tl_len : ∀ xs : List Int, (tl xs).length = xs.length
  | [] => rfl
  | x :: xs => by simp [tl, tl_len xs]
theorem tl_get : ∀ (xs : List Int) (i : Nat), i < xs.length → ix (tl xs) i = (xs.drop i).sum
  | [], i, h => by simp at h
  | x :: xs, 0, _ => by simp [tl, ix]
  | x :: xs, i + 1, h => by
    have := tl_get xs i (by simpa using h)
    simp [ix] at this
    simp [tl, ix, this]
theorem tl_range (xs : List Int) : (List.range xs.length).map (fun (i : Nat) => (xs.drop i).sum) = tl xs := by
  apply List.ext_getElem
  · simp [tl_len]
  · intro i h1 h2
    simp at h1
    have := tl_get xs i h1
    unfold ix at this
    rw [List.getD_eq_getElem?_getD, Int.toNat_natCast, List.getElem?_eq_getElem h2] at this
    simp at this
    simp [this]
theorem tl_drop : ∀ (xs : List Int) (k : Nat), (tl xs).drop k = tl (xs.drop k)
  | xs, 0 => by simp
  | [], k + 1 => by simp [tl]
  | x :: xs, k + 1 => by simp [tl, tl_drop xs k]
/-- sums along a list -/
def scan (a : Int) : List Int → List Int
  | [] => []
  | x :: xs => (a + x) :: scan (a + x) xs
theorem scan_snoc : ∀ (a : Int) (xs : List Int) (x : Int), scan a (xs ++ [x]) = scan a xs ++ [a + xs.sum + x]
  | a, [], x => by simp [scan]
  | a, y :: xs, x => by
    have := scan_snoc (a + y) xs x
    simp [scan, this]
    omega
theorem scan_rev : ∀ xs : List Int, (scan 0 xs.reverse).reverse = tl xs
  | [] => rfl
  | x :: xs => by
    have ih := scan_rev xs
    rw [List.reverse_cons, scan_snoc, List.reverse_append, ih]
    simp [tl]
    omega
theorem scan_len : ∀ (a : Int) (xs : List Int), (scan a xs).length = xs.length
  | _, [] => rfl
  | a, x :: xs => by simp [scan, scan_len]
def Sp_tails (f : List D → M D) : Prop := ∀ xs : List Int, xs.length ≤ 1000 → f [lisD xs] = pure (lisD (tl xs))
theorem s_tails {call : Str → List D → M D} {w : Nat} : Sp_tails (S_tails call w) := by
  intro xs hl
  unfold S_tails
  rw [runS_1]
  obtain ⟨v', e, h⟩ := forL_fold (enc := PyData.int) (bind := bindG (.one 3)) (b := S_tails_b0 call w) (fun (a : List Int × Int) x => (a.1 ++ [a.2 + x], a.2 + x)) (fun a v => [some (lisD xs, false), some (lisD a.1, true), some (.int a.2, false), v]) (fun _ _ _ => rfl) (fun k a => a.1.length = k) xs.reverse 0 (fun i x a hx ha => by
    have hi := (List.getElem?_eq_some_iff.mp hx).1
    simp at hi ha
    refine ⟨?_, by simp [ha]⟩
    simp [S_tails_b0]
    rw [sAug_int (i := 2) rfl (augI_add ..)]
    simp
    rw [sApp_own (l := 1) rfl (sl' (by simp; omega))]
    simp [lisD]) ([], 0) rfl none
  have key : ∀ (ys : List Int) (f : List Int) (t : Int), (ys.foldl (fun (a : List Int × Int) x => (a.1 ++ [a.2 + x], a.2 + x)) (f, t)).1 = f ++ scan t ys := by
    intro ys
    induction ys with
    | nil => intro f t; simp [scan]
    | cons y ys ih => intro f t; rw [List.foldl_cons, ih]; simp [scan]
  have k2 := key xs.reverse [] 0
  simp at k2
  simp [lisD] at e
  simp [startN, lstS, sline, lisD, e, k2]
  rw [← scan_rev]
  simp [lisD]
/-- a row on a common scale -/
def pad (s : Nat) (c : Int) (xs : List Int) : List Int := xs.map (fun x => x * c) ++ List.replicate (s - xs.length) 0
theorem pad_len {s : Nat} {c : Int} {xs : List Int} (h : xs.length ≤ s) : (pad s c xs).length = s := by
  simp [pad]
  omega
theorem pad_D (s : Nat) (c : Int) (xs : List Int) : (xs.map fun x => PyData.int (x * c)) ++ List.replicate (s - xs.length) (PyData.int 0) = (pad s c xs).map .int := by simp [pad]
theorem pad_bt {s : Nat} {c : Int} {xs : List Int} (hx : ∀ x ∈ xs, Bt 20 x) (hc : Bt 25 c) : ∀ x ∈ pad s c xs, Bt 45 x := by
  intro x h
  unfold pad at h
  rcases List.mem_append.mp h with h | h
  · obtain ⟨y, hy, rfl⟩ := List.mem_map.mp h
    exact (hx y hy).mul hc
  · rw [List.eq_of_mem_replicate h]
    exact Bt.of_lt (by decide) (by decide)
theorem pad_nn {s : Nat} {c : Int} {xs : List Int} (hx : ∀ x ∈ xs, 0 ≤ x) (hc : 0 ≤ c) : ∀ x ∈ pad s c xs, 0 ≤ x := by
  intro x h
  unfold pad at h
  rcases List.mem_append.mp h with h | h
  · obtain ⟨y, hy, rfl⟩ := List.mem_map.mp h
    exact Int.mul_nonneg (hx y hy) hc
  · rw [List.eq_of_mem_replicate h]
    decide
def padsD (mk : List D → D) (a b : List Int) : D := mk [lisD (pad (max a.length b.length) b.sum a), lisD (pad (max a.length b.length) a.sum b)]
theorem zeros {n : Nat} {m : Nat} (h : m ≤ n) (hn : n ≤ 1000) : binop .Mult (.list [.int 0]) (.int ((n : Int) - (m : Int))) = pure (.list (List.replicate (n - m) (.int 0))) := by
  rw [binop_mulL (by omega) (by omega)]
  congr 3
  omega
def Sp_common_rows (f : List D → M D) : Prop := ∀ a b : List Int, IsDr a → IsDr b → f [tupD a, tupD b] = pure (padsD .tuple a b)
theorem s_common_rows {call : Str → List D → M D} {w : Nat} : Sp_common_rows (S_common_rows call w) := by
  intro a b ha hb
  unfold S_common_rows
  rw [runS_2]
  have la := ha.most
  have lb := hb.most
  have hmx : max (a.length : Int) (b.length : Int) = ((max a.length b.length : Nat) : Int) := by omega
  simp [startN, biS, hmx, lstS, tupS, sline]
  rw [compS_map a .int (fun x => .int (x * b.sum)) rfl (sl (by omega)) fun x hx => ⟨_, rfl, by simp [S_common_rows_e0, bmul (ha.bt hx) hb.sumBt]⟩]
  rw [zeros (by omega) (by omega)]
  simp
  rw [binop_addL (sl (by simp; omega)), pad_D]
  simp [biS]
  rw [compS_map b .int (fun x => .int (x * a.sum)) rfl (sl (by omega)) fun x hx => ⟨_, rfl, by simp [S_common_rows_e1, bmul (hb.bt hx) ha.sumBt]⟩]
  rw [zeros (by omega) (by omega)]
  simp
  rw [binop_addL (sl (by simp; omega)), pad_D]
  simp [tupS, sline, padsD, lisD]
theorem tl_sum : ∀ xs : List Int, (tl xs).sum = sumR xs.length (fun i => ((i : Int) + 1) * ix xs i)
  | [] => rfl
  | x :: xs => by
    rw [List.length_cons, sumR_front]
    have e : sumR xs.length (fun i => (((i + 1 : Nat) : Int) + 1) * ix (x :: xs) ((i + 1 : Nat) : Int)) = sumR xs.length (fun i => ((i : Int) + 1) * ix xs i) + xs.sum := by
      rw [sum_ix xs, ← sumR_add]
      refine sumR_congr fun i _ => ?_
      rw [ix_cons_succ]
      have : (((i + 1 : Nat) : Int) + 1) = ((i : Int) + 1) + 1 := by omega
      rw [this, Int.add_mul ((i : Int) + 1), Int.one_mul]
    rw [e, ← tl_sum xs, ix_cons_zero]
    simp [tl]
    omega
theorem scan_sum : ∀ (a : Int) (xs : List Int), (scan a xs).sum = (xs.length : Int) * a + sumR xs.length (fun i => ((xs.length : Int) - (i : Int)) * ix xs i)
  | a, [] => by simp [scan]
  | a, x :: xs => by
    rw [List.length_cons, sumR_front]
    have e : sumR xs.length (fun i => (((xs.length + 1 : Nat) : Int) - ((i + 1 : Nat) : Int)) * ix (x :: xs) ((i + 1 : Nat) : Int)) = sumR xs.length (fun i => ((xs.length : Int) - (i : Int)) * ix xs i) := by
      refine sumR_congr fun i _ => ?_
      rw [ix_cons_succ]
      congr 1
      omega
    rw [e, ix_cons_zero]
    have := scan_sum (a + x) xs
    simp [scan, this]
    rw [Int.mul_add, Int.add_mul, Int.add_mul]
    omega
theorem scan_take : ∀ (a : Int) (xs : List Int) (k : Nat), (scan a xs).take k = scan a (xs.take k)
  | a, xs, 0 => by simp [scan]
  | a, [], k + 1 => by simp [scan]
  | a, x :: xs, k + 1 => by simp [scan, scan_take (a + x) xs k]
theorem scan_get : ∀ (a : Int) (xs : List Int) (k : Nat), k < xs.length → ix (scan a xs) k = a + (xs.take (k + 1)).sum
  | a, [], k, h => by simp at h
  | a, x :: xs, 0, _ => by simp [scan, ix]
  | a, x :: xs, k + 1, h => by
    have := scan_get (a + x) xs k (by simpa using h)
    simp [scan]
    rw [show ((k : Int) + 1) = ((k + 1 : Nat) : Int) by omega, ix_cons_succ, this]
    omega
theorem scan_range (xs : List Int) : (List.range xs.length).map (fun (i : Nat) => (xs.take (i + 1)).sum) = scan 0 xs := by
  apply ext_ix (by simp [scan_len])
  intro k hk
  simp at hk
  rw [scan_get 0 xs k hk, ix_map _ _ _ (by simpa using hk)]
  simp
/-- icx, mrl, hmrl: the law's sums -/
theorem tl2_range (xs : List Int) : (List.range xs.length).map (fun (k : Nat) => sumR (xs.length - k) (fun j => (((k + j : Nat) : Int) + 1 - (k : Int)) * ix xs ((k + j : Nat) : Int))) = tl (tl xs) := by
  apply ext_ix (by simp [tl_len])
  intro k hk
  simp at hk
  rw [tl_get _ _ (by rw [tl_len]; exact hk), tl_drop, tl_sum, ix_map _ _ _ (by simpa using hk)]
  simp only [List.getElem_range, List.length_drop]
  refine sumR_congr fun i _ => ?_
  rw [ix_drop]
  congr 1
  omega
/-- icv: the law's sums -/
theorem scan2_range (xs : List Int) : (List.range xs.length).map (fun (k : Nat) => sumR (k + 1) (fun i => ((k : Int) - (i : Int) + 1) * ix xs (i : Int))) = scan 0 (scan 0 xs) := by
  apply ext_ix (by simp [scan_len])
  intro k hk
  simp at hk
  rw [scan_get _ _ _ (by rw [scan_len]; exact hk), scan_take, scan_sum, ix_map _ _ _ (by simpa using hk)]
  simp only [List.getElem_range, List.length_take]
  rw [show min (k + 1) xs.length = k + 1 by omega, Int.mul_zero, Int.zero_add, Int.zero_add]
  refine sumR_congr fun i hi => ?_
  rw [ix_take hi]
  congr 1
  omega
def Sp_heads (f : List D → M D) : Prop := ∀ xs : List Int, xs.length ≤ 1000 → f [lisD xs] = pure (lisD (scan 0 xs))
theorem s_heads {call : Str → List D → M D} {w : Nat} : Sp_heads (S_heads call w) := by
  intro xs hl
  unfold S_heads
  rw [runS_1]
  obtain ⟨v', e, h⟩ := forL_fold (enc := PyData.int) (bind := bindG (.one 3)) (b := S_heads_b0 call w) (fun (a : List Int × Int) x => (a.1 ++ [a.2 + x], a.2 + x)) (fun a v => [some (lisD xs, false), some (lisD a.1, true), some (.int a.2, false), v]) (fun _ _ _ => rfl) (fun k a => a.1.length = k) xs 0 (fun i x a hx ha => by
    have hi := (List.getElem?_eq_some_iff.mp hx).1
    simp at hi ha
    refine ⟨?_, by simp [ha]⟩
    simp [S_heads_b0]
    rw [sAug_int (i := 2) rfl (augI_add ..)]
    simp
    rw [sApp_own (l := 1) rfl (sl' (by simp; omega))]
    simp [lisD]) ([], 0) rfl none
  have key : ∀ (ys : List Int) (f : List Int) (t : Int), (ys.foldl (fun (a : List Int × Int) x => (a.1 ++ [a.2 + x], a.2 + x)) (f, t)).1 = f ++ scan t ys := by
    intro ys
    induction ys with
    | nil => intro f t; simp [scan]
    | cons y ys ih => intro f t; rw [List.foldl_cons, ih]; simp [scan]
  have k2 := key xs [] 0
  simp at k2
  simp [lisD] at e
  simp [startN, lstS, sline, lisD, e, k2, sRetN, ownI, ownDI]
end Py

set_option Elab.async false
set_option linter.all false
set_option maxRecDepth 100000
namespace Py
open PySem
def S_is_ratio (call : Str → List D → M D) (w : Nat) : List D → M D := runS ⟨false, false⟩ 1 1 fun σ =>
  thenF (sIf σ (orS [(notS (isiS (rd σ 0) ("tuple" : Str))), (cmp1 (biS ("len" : Str) [(rd σ 0)]) (pure (.int 2)) .NotEq), (notS (callS call ("is_whole" : Str) [(ixS (rd σ 0) (pure (.int 0)))])), (notS (callS call ("is_whole" : Str) [(ixS (rd σ 0) (pure (.int 1)))]))])
  (thenF (sRet (frz σ [0]) (pure (.bool false)) false) fun σ =>
    sEnd σ)
  (sEnd σ)) fun σ =>
  thenF (sRet (frz σ [0]) (andS [(cmp1 (ixS (rd (frz σ [0]) 0) (pure (.int 1))) (pure (.int 0)) .Gt), (cmp1 (callS call ("common" : Str) [(ixS (rd (frz σ [0]) 0) (pure (.int 0))), (ixS (rd (frz σ [0]) 0) (pure (.int 1)))]) (pure (.int 1)) .Eq)]) false) fun σ =>
  sEnd σ

def S_check_number (call : Str → List D → M D) (w : Nat) : List D → M D := runS ⟨false, false⟩ 1 1 fun σ =>
  thenF (sIf σ (orS [(notS (callS call ("is_whole" : Str) [(rdV σ 0)])), (cmp1 (rd σ 0) (pure (.int 0)) .Lt)])
  (thenF (sRaise ("Malformed" : Str) σ) fun σ =>
    sEnd σ)
  (sEnd σ)) fun σ =>
  sEnd σ

def S_draw_of_c0 (call : Str → List D → M D) (w : Nat) (σ : St) : M D :=
  (andS [(cmp1 (biS ("len" : Str) [(rd σ 1)]) (pure (.int 0)) .Gt), (callS call ("is_whole" : Str) [(ixS (rd σ 1) (negS (pure (.int 1))))]), (cmp1 (ixS (rd σ 1) (negS (pure (.int 1)))) (pure (.int 0)) .Eq)])
def S_draw_of_b1 (call : Str → List D → M D) (w : Nat) (σ : St) : M Flow :=
  thenF (sPop0 σ 1) fun σ =>
  sEnd σ
def S_draw_of (call : Str → List D → M D) (w : Nat) : List D → M D := runS ⟨false, false⟩ 1 2 fun σ =>
  thenF (sIf σ (notS (isiS2 (rd σ 0) ("list" : Str) ("tuple" : Str)))
  (thenF (sRaise ("Malformed" : Str) σ) fun σ =>
    sEnd σ)
  (sEnd σ)) fun σ =>
  thenF (sAsg σ (biS ("list" : Str) [(rd σ 0)]) 1 true) fun σ =>
  thenF (sWhile (S_draw_of_c0 call w) (S_draw_of_b1 call w) (w + msr σ) σ) fun σ =>
  thenF (sExp σ (callS call ("check_draw" : Str) [(biS ("tuple" : Str) [(rd σ 1)])])) fun σ =>
  thenF (sRet (frz σ [0, 1]) (biS ("tuple" : Str) [(rd (frz σ [0, 1]) 1)]) false) fun σ =>
  sEnd σ

def S_plain_b0 (call : Str → List D → M D) (w : Nat) (σ : St) : M Flow :=
  thenF (sAsg (frz σ [1, 2]) (callS call ("common" : Str) [(rdV (frz σ [1, 2]) 1), (rdV (frz σ [1, 2]) 2)]) 1 false) fun σ =>
  sEnd σ
def S_plain_e1 (call : Str → List D → M D) (w : Nat) (σ : St) : M D :=
  (binS .FloorDiv (rd σ 2) (rd σ 1))
def S_plain (call : Str → List D → M D) (w : Nat) : List D → M D := runS ⟨false, false⟩ 1 3 fun σ =>
  thenF (sExp (frz σ [0]) (callS call ("check_draw" : Str) [(rdV (frz σ [0]) 0)])) fun σ =>
  thenF (sAsg σ (pure (.int 0)) 1 false) fun σ =>
  thenF (sFor (frz (frz σ [0]) [0]) (dataI (rdV (frz (frz σ [0]) [0]) 0)) (.one 2) (S_plain_b0 call w)) fun σ =>
  thenF (sRet (frz σ [0, 1, 2]) (biS ("tuple" : Str) [(compS (dataI (rd (frz σ [0, 1, 2]) 0)) (fun d => bindG (.one 2) (wipe (frz σ [0, 1, 2]) [2]) d) (fun _ => pure true) (S_plain_e1 call w))]) false) fun σ =>
  sEnd σ

def S_chance (call : Str → List D → M D) (w : Nat) : List D → M D := runS ⟨false, false⟩ 2 2 fun σ =>
  thenF (sExp (frz σ [0]) (callS call ("check_draw" : Str) [(rdV (frz σ [0]) 0)])) fun σ =>
  thenF (sExp (frz σ [1]) (callS call ("check_number" : Str) [(rdV (frz σ [1]) 1)])) fun σ =>
  thenF (sRet (frz σ [0, 1]) (callS call ("lowest" : Str) [(ifeS (cmp2 (pure (.int 1)) (rd (frz σ [0, 1]) 1) (biS ("len" : Str) [(rd (frz σ [0, 1]) 0)]) .LtE .LtE) (ixS (rd (frz σ [0, 1]) 0) (binS .Sub (rd (frz σ [0, 1]) 1) (pure (.int 1)))) (pure (.int 0))), (biS ("sum" : Str) [(rd (frz σ [0, 1]) 0)])]) false) fun σ =>
  sEnd σ

def S_above (call : Str → List D → M D) (w : Nat) : List D → M D := runS ⟨false, false⟩ 2 2 fun σ =>
  thenF (sExp (frz σ [0]) (callS call ("check_draw" : Str) [(rdV (frz σ [0]) 0)])) fun σ =>
  thenF (sExp (frz σ [1]) (callS call ("check_number" : Str) [(rdV (frz σ [1]) 1)])) fun σ =>
  thenF (sRet (frz σ [0, 1]) (callS call ("lowest" : Str) [(biS ("sum" : Str) [(slS (rd (frz σ [0, 1]) 0) (some (biS ("max" : Str) [(binS .Sub (rd (frz σ [0, 1]) 1) (pure (.int 1))), (pure (.int 0))])) none)]), (biS ("sum" : Str) [(rd (frz σ [0, 1]) 0)])]) false) fun σ =>
  sEnd σ

def S_upto (call : Str → List D → M D) (w : Nat) : List D → M D := runS ⟨false, false⟩ 2 2 fun σ =>
  thenF (sExp (frz σ [0]) (callS call ("check_draw" : Str) [(rdV (frz σ [0]) 0)])) fun σ =>
  thenF (sExp (frz σ [1]) (callS call ("check_number" : Str) [(rdV (frz σ [1]) 1)])) fun σ =>
  thenF (sRet (frz σ [0, 1]) (callS call ("lowest" : Str) [(biS ("sum" : Str) [(slS (rd (frz σ [0, 1]) 0) none (some (rd (frz σ [0, 1]) 1)))]), (biS ("sum" : Str) [(rd (frz σ [0, 1]) 0)])]) false) fun σ =>
  sEnd σ

def S_excess_i0 (call : Str → List D → M D) (w : Nat) (σ : St) : M Bool :=
  tstS (cmp1 (rd σ 2) (rd σ 1) .Gt)
def S_excess_e1 (call : Str → List D → M D) (w : Nat) (σ : St) : M D :=
  (binS .Mult (rd σ 3) (binS .Sub (rd σ 2) (rd σ 1)))
def S_excess (call : Str → List D → M D) (w : Nat) : List D → M D := runS ⟨false, false⟩ 2 4 fun σ =>
  thenF (sExp (frz σ [0]) (callS call ("check_draw" : Str) [(rdV (frz σ [0]) 0)])) fun σ =>
  thenF (sExp (frz σ [1]) (callS call ("check_number" : Str) [(rdV (frz σ [1]) 1)])) fun σ =>
  thenF (sRet (frz σ [0, 1]) (callS call ("lowest" : Str) [(biS ("sum" : Str) [(compS (iterS ("enumerate" : Str) [(rd (frz σ [0, 1]) 0), (pure (.int 1))]) (fun d => bindG (.many [2, 3]) (wipe (frz σ [0, 1]) [2, 3]) d) (S_excess_i0 call w) (S_excess_e1 call w))]), (biS ("sum" : Str) [(rd (frz σ [0, 1]) 0)])]) false) fun σ =>
  sEnd σ

def S_lack_i0 (call : Str → List D → M D) (w : Nat) (σ : St) : M Bool :=
  tstS (cmp1 (rd σ 2) (rd σ 1) .Lt)
def S_lack_e1 (call : Str → List D → M D) (w : Nat) (σ : St) : M D :=
  (binS .Mult (rd σ 3) (binS .Sub (rd σ 1) (rd σ 2)))
def S_lack (call : Str → List D → M D) (w : Nat) : List D → M D := runS ⟨false, false⟩ 2 4 fun σ =>
  thenF (sExp (frz σ [0]) (callS call ("check_draw" : Str) [(rdV (frz σ [0]) 0)])) fun σ =>
  thenF (sExp (frz σ [1]) (callS call ("check_number" : Str) [(rdV (frz σ [1]) 1)])) fun σ =>
  thenF (sRet (frz σ [0, 1]) (callS call ("lowest" : Str) [(biS ("sum" : Str) [(compS (iterS ("enumerate" : Str) [(rd (frz σ [0, 1]) 0), (pure (.int 1))]) (fun d => bindG (.many [2, 3]) (wipe (frz σ [0, 1]) [2, 3]) d) (S_lack_i0 call w) (S_lack_e1 call w))]), (biS ("sum" : Str) [(rd (frz σ [0, 1]) 0)])]) false) fun σ =>
  sEnd σ

def S_mean (call : Str → List D → M D) (w : Nat) : List D → M D := runS ⟨false, false⟩ 1 1 fun σ =>
  thenF (sRet (frz σ [0]) (callS call ("excess" : Str) [(rdV (frz σ [0]) 0), (pure (.int 0))]) false) fun σ =>
  sEnd σ

def S_variance_e0 (call : Str → List D → M D) (w : Nat) (σ : St) : M D :=
  (binS .Mult (rd σ 5) (rd σ 4))
def S_variance_e1 (call : Str → List D → M D) (w : Nat) (σ : St) : M D :=
  (binS .Mult (binS .Mult (rd σ 5) (rd σ 4)) (rd σ 4))
def S_variance (call : Str → List D → M D) (w : Nat) : List D → M D := runS ⟨false, false⟩ 1 6 fun σ =>
  thenF (sExp (frz σ [0]) (callS call ("check_draw" : Str) [(rdV (frz σ [0]) 0)])) fun σ =>
  thenF (sAsg σ (biS ("sum" : Str) [(rd σ 0)]) 1 false) fun σ =>
  thenF (sAsg σ (biS ("sum" : Str) [(compS (iterS ("enumerate" : Str) [(rd σ 0), (pure (.int 1))]) (fun d => bindG (.many [4, 5]) (wipe σ [4, 5]) d) (fun _ => pure true) (S_variance_e0 call w))]) 2 false) fun σ =>
  thenF (sAsg σ (biS ("sum" : Str) [(compS (iterS ("enumerate" : Str) [(rd σ 0), (pure (.int 1))]) (fun d => bindG (.many [4, 5]) (wipe σ [4, 5]) d) (fun _ => pure true) (S_variance_e1 call w))]) 3 false) fun σ =>
  thenF (sRet (frz σ [0, 1, 2, 3]) (callS call ("lowest" : Str) [(binS .Sub (binS .Mult (rd (frz σ [0, 1, 2, 3]) 3) (rd (frz σ [0, 1, 2, 3]) 1)) (binS .Mult (rd (frz σ [0, 1, 2, 3]) 2) (rd (frz σ [0, 1, 2, 3]) 2))), (binS .Mult (rd (frz σ [0, 1, 2, 3]) 1) (rd (frz σ [0, 1, 2, 3]) 1))]) false) fun σ =>
  sEnd σ

def S_power_mean_b0 (call : Str → List D → M D) (w : Nat) (σ : St) : M Flow :=
  thenF (sAsg σ (binS .Mult (binS .Add (rd σ 4) (binS .Mult (rd σ 6) (rd σ 5))) (rd σ 2)) 4 true) fun σ =>
  thenF (sAug σ 5 .Mult (rdV σ 3)) fun σ =>
  sEnd σ
def S_power_mean (call : Str → List D → M D) (w : Nat) : List D → M D := runS ⟨false, false⟩ 2 7 fun σ =>
  thenF (sExp (frz σ [0]) (callS call ("check_draw" : Str) [(rdV (frz σ [0]) 0)])) fun σ =>
  thenF (sIf σ (orS [(notS (callS call ("is_ratio" : Str) [(rdV σ 1)])), (cmp1 (ixS (rd σ 1) (pure (.int 0))) (pure (.int 0)) .Lt), (cmp1 (ixS (rd σ 1) (pure (.int 0))) (ixS (rd σ 1) (pure (.int 1))) .Gt)])
  (thenF (sRaise ("Malformed" : Str) σ) fun σ =>
    sEnd σ)
  (sEnd σ)) fun σ =>
  thenF (sTup (frz σ [1]) (rdV (frz σ [1]) 1) (.many [2, 3])) fun σ =>
  thenF (sTup σ (tupS [(pure (.int 0)), (pure (.int 1))]) (.many [4, 5])) fun σ =>
  thenF (sFor σ (dataI (revS (rd σ 0))) (.one 6) (S_power_mean_b0 call w)) fun σ =>
  thenF (sRet (frz σ [0, 1, 2, 3, 4, 5, 6]) (callS call ("lowest" : Str) [(rdV (frz σ [0, 1, 2, 3, 4, 5, 6]) 4), (binS .Mult (rd (frz σ [0, 1, 2, 3, 4, 5, 6]) 5) (biS ("sum" : Str) [(rd (frz σ [0, 1, 2, 3, 4, 5, 6]) 0)]))]) false) fun σ =>
  sEnd σ

def S_least_number_i0 (call : Str → List D → M D) (w : Nat) (σ : St) : M Bool :=
  tstS (cmp1 (rd σ 2) (pure (.int 0)) .Gt)
def S_least_number_e1 (call : Str → List D → M D) (w : Nat) (σ : St) : M D :=
  (rdV σ 1)
def S_least_number (call : Str → List D → M D) (w : Nat) : List D → M D := runS ⟨false, false⟩ 1 3 fun σ =>
  thenF (sExp (frz σ [0]) (callS call ("check_draw" : Str) [(rdV (frz σ [0]) 0)])) fun σ =>
  thenF (sRet (frz σ [0]) (ixS (compS (iterS ("enumerate" : Str) [(rd (frz σ [0]) 0), (pure (.int 1))]) (fun d => bindG (.many [1, 2]) (wipe (frz σ [0]) [1, 2]) d) (S_least_number_i0 call w) (S_least_number_e1 call w)) (pure (.int 0))) false) fun σ =>
  sEnd σ

def S_middle_number_b0 (call : Str → List D → M D) (w : Nat) (σ : St) : M Flow :=
  thenF (sAug σ 1 .Add (rdV σ 3)) fun σ =>
  thenF (sIf σ (cmp1 (binS .Mult (pure (.int 2)) (rd σ 1)) (biS ("sum" : Str) [(rd σ 0)]) .GtE)
  (thenF (sRetN σ 2) fun σ =>
    sEnd σ)
  (sEnd σ)) fun σ =>
  sEnd σ
def S_middle_number (call : Str → List D → M D) (w : Nat) : List D → M D := runS ⟨false, false⟩ 1 4 fun σ =>
  thenF (sExp (frz σ [0]) (callS call ("check_draw" : Str) [(rdV (frz σ [0]) 0)])) fun σ =>
  thenF (sAsg σ (pure (.int 0)) 1 false) fun σ =>
  thenF (sFor (frz σ [0]) (iterS ("enumerate" : Str) [(rdV (frz σ [0]) 0), (pure (.int 1))]) (.many [2, 3]) (S_middle_number_b0 call w)) fun σ =>
  thenF (sRet (frz σ [0, 1, 2, 3]) (biS ("len" : Str) [(rd (frz σ [0, 1, 2, 3]) 0)]) false) fun σ =>
  sEnd σ

def S_both (call : Str → List D → M D) (w : Nat) : List D → M D := runS ⟨false, false⟩ 2 4 fun σ =>
  thenF (sExp (frz σ [0]) (callS call ("check_draw" : Str) [(rdV (frz σ [0]) 0)])) fun σ =>
  thenF (sExp (frz σ [1]) (callS call ("check_draw" : Str) [(rdV (frz σ [1]) 1)])) fun σ =>
  thenF (sTup (frz σ [0, 1]) (callS call ("common_rows" : Str) [(rdV (frz σ [0, 1]) 0), (rdV (frz σ [0, 1]) 1)]) (.many [2, 3])) fun σ =>
  thenF (sRet (frz σ [0, 1, 2, 3]) (tupS [(biS ("tuple" : Str) [(rd (frz σ [0, 1, 2, 3]) 2)]), (biS ("tuple" : Str) [(rd (frz σ [0, 1, 2, 3]) 3)])]) false) fun σ =>
  sEnd σ

def S_has_mean (call : Str → List D → M D) (w : Nat) : List D → M D := runS ⟨false, false⟩ 2 2 fun σ =>
  thenF (sExp (frz σ [0]) (callS call ("check_draw" : Str) [(rdV (frz σ [0]) 0)])) fun σ =>
  thenF (sExp (frz σ [1]) (callS call ("check_draw" : Str) [(rdV (frz σ [1]) 1)])) fun σ =>
  thenF (sRet (frz σ [0, 1]) (cmp1 (callS call ("mean" : Str) [(rdV (frz σ [0, 1]) 0)]) (callS call ("mean" : Str) [(rdV (frz σ [0, 1]) 1)]) .Eq) false) fun σ =>
  sEnd σ

def S__law_says (call : Str → List D → M D) (w : Nat) : List D → M D := runS ⟨false, false⟩ 2 2 fun σ =>
  thenF (sRet (frz σ [0, 1]) (andS [(isiS (rd (frz σ [0, 1]) 0) ("bool" : Str)), (cmp1 (rd (frz σ [0, 1]) 0) (rd (frz σ [0, 1]) 1) .Eq)]) false) fun σ =>
  sEnd σ

def S__law_some_e0 (call : Str → List D → M D) (w : Nat) (σ : St) : M D :=
  (ifeS (cmp1 (callF call ("_law_take" : Str) [(rd σ 0), (pure (.int 4))]) (pure (.int 0)) .Gt) (callF call ("_law_take" : Str) [(rd σ 0), (binS .Add (rd σ 3) (pure (.int 1)))]) (pure (.int 0)))
def S__law_some_c1 (call : Str → List D → M D) (w : Nat) (σ : St) : M D :=
  (andS [(cmp1 (rd σ 4) (lstS []) .NotEq), (cmp1 (ixS (rd σ 4) (negS (pure (.int 1)))) (pure (.int 0)) .Eq)])
def S__law_some_b2 (call : Str → List D → M D) (w : Nat) (σ : St) : M Flow :=
  thenF (sPop0 σ 4) fun σ =>
  sEnd σ
def S__law_some (call : Str → List D → M D) (w : Nat) : List D → M D := runS ⟨false, false⟩ 3 6 fun σ =>
  thenF (sAsg (frz σ [2]) (ixS (lstS [(pure (.int 2)), (pure (.int 4)), (pure (.int 9)), (rdV (frz σ [2]) 2)]) (callF call ("_law_take" : Str) [(rd (frz σ [2]) 0), (pure (.int 4))])) 3 false) fun σ =>
  thenF (sAsg σ (compS (iterS ("range" : Str) [(binS .Add (pure (.int 1)) (callF call ("_law_take" : Str) [(rd σ 0), (rd σ 1)]))]) (fun d => bindG (.one 5) (wipe σ [5]) d) (fun _ => pure true) (S__law_some_e0 call w)) 4 true) fun σ =>
  thenF (sWhile (S__law_some_c1 call w) (S__law_some_b2 call w) (w + msr σ) σ) fun σ =>
  thenF (sRet (frz σ [0, 1, 2, 3, 4]) (ifeS (cmp1 (rd (frz σ [0, 1, 2, 3, 4]) 4) (lstS []) .NotEq) (biS ("tuple" : Str) [(rd (frz σ [0, 1, 2, 3, 4]) 4)]) (tupS [(binS .Add (pure (.int 1)) (callF call ("_law_take" : Str) [(rd (frz σ [0, 1, 2, 3, 4]) 0), (pure (.int 3))]))])) false) fun σ =>
  sEnd σ

def S__law_near_t0 (call : Str → List D → M D) (w : Nat) (σ : St) : M Flow :=
  thenF (sAsg σ (binS .FloorDiv (rd σ 6) (pure (.int 2))) 7 true) fun σ =>
  thenF (sSub σ 2 (rdV σ 4) (binS .Sub (ixS (rd σ 2) (rd σ 4)) (binS .Mult (pure (.int 2)) (rd σ 7)))) fun σ =>
  thenF (sSub σ 2 (binS .Sub (rd σ 4) (pure (.int 1))) (binS .Add (ixS (rd σ 2) (binS .Sub (rd σ 4) (pure (.int 1)))) (rd σ 7))) fun σ =>
  thenF (sSub σ 2 (binS .Add (rd σ 4) (pure (.int 1))) (binS .Add (ixS (rd σ 2) (binS .Add (rd σ 4) (pure (.int 1)))) (rd σ 7))) fun σ =>
  sEnd σ
def S__law_near_t1 (call : Str → List D → M D) (w : Nat) (σ : St) : M Flow :=
  thenF (sSub σ 2 (rdV σ 4) (binS .Sub (ixS (rd σ 2) (rd σ 4)) (rd σ 6))) fun σ =>
  thenF (sSub σ 2 (rdV σ 5) (binS .Add (ixS (rd σ 2) (rd σ 5)) (rd σ 6))) fun σ =>
  sEnd σ
def S__law_near_f2 (call : Str → List D → M D) (w : Nat) (σ : St) : M Flow :=
  thenF (sIf σ (orS [(cmp1 (rd σ 5) (rd σ 4) .GtE), (cmp1 (callF call ("_law_take" : Str) [(rd σ 0), (pure (.int 3))]) (pure (.int 0)) .Eq)]) ((S__law_near_t1 call w) σ) (sEnd σ)) fun σ =>
  sEnd σ
def S__law_near_b3 (call : Str → List D → M D) (w : Nat) (σ : St) : M Flow :=
  thenF (sParN σ [false, false] [(callF call ("_law_take" : Str) [(rd σ 0), (biS ("len" : Str) [(rd σ 2)])]), (callF call ("_law_take" : Str) [(rd σ 0), (biS ("len" : Str) [(rd σ 2)])])] [4, 5]) fun σ =>
  thenF (sAsg σ (callF call ("_law_take" : Str) [(rd σ 0), (binS .Add (ixS (rd σ 2) (rd σ 4)) (pure (.int 1)))]) 6 false) fun σ =>
  thenF (sIf σ (andS [(cmp1 (callF call ("_law_take" : Str) [(rd σ 0), (pure (.int 3))]) (pure (.int 0)) .Eq), (cmp1 (rd σ 4) (pure (.int 0)) .Gt), (cmp1 (binS .Add (rd σ 4) (pure (.int 1))) (biS ("len" : Str) [(rd σ 2)]) .Lt)]) ((S__law_near_t0 call w) σ) ((S__law_near_f2 call w) σ)) fun σ =>
  sEnd σ
def S__law_near_c4 (call : Str → List D → M D) (w : Nat) (σ : St) : M D :=
  (cmp1 (ixS (rd σ 2) (negS (pure (.int 1)))) (pure (.int 0)) .Eq)
def S__law_near_b5 (call : Str → List D → M D) (w : Nat) (σ : St) : M Flow :=
  thenF (sPop0 σ 2) fun σ =>
  sEnd σ
def S__law_near_k6 (call : Str → List D → M D) (w : Nat) (σ : St) : M Flow :=
  thenF (sRet (frz σ [0, 1, 2, 3, 4, 5, 6, 7]) (biS ("tuple" : Str) [(rd (frz σ [0, 1, 2, 3, 4, 5, 6, 7]) 2)]) false) fun σ =>
  sEnd σ
def S__law_near_k7 (call : Str → List D → M D) (w : Nat) (σ : St) : M Flow :=
  thenF (sWhile (S__law_near_c4 call w) (S__law_near_b5 call w) (w + msr σ) σ) (S__law_near_k6 call w)
def S__law_near_k8 (call : Str → List D → M D) (w : Nat) (σ : St) : M Flow :=
  thenF (sFor σ (iterS ("range" : Str) [(binS .Add (pure (.int 1)) (callF call ("_law_take" : Str) [(rd σ 0), (pure (.int 3))]))]) (.one 3) (S__law_near_b3 call w)) (S__law_near_k7 call w)
def S__law_near (call : Str → List D → M D) (w : Nat) : List D → M D := runS ⟨false, false⟩ 2 8 fun σ =>
  thenF (sAsg σ (binS .Add (biS ("list" : Str) [(rd σ 1)]) (lstS [(pure (.int 0)), (pure (.int 0))])) 2 true) (S__law_near_k8 call w)

def S__law_pair (call : Str → List D → M D) (w : Nat) : List D → M D := runS ⟨false, false⟩ 3 5 fun σ =>
  thenF (sAsg (frz σ [0, 1, 2]) (callS call ("_law_some" : Str) [(rdV (frz σ [0, 1, 2]) 0), (rdV (frz σ [0, 1, 2]) 1), (rdV (frz σ [0, 1, 2]) 2)]) 3 false) fun σ =>
  thenF (sAsg (frz σ [0, 3, 0, 1, 2]) (ifeS (cmp1 (callF call ("_law_take" : Str) [(rd (frz σ [0, 3, 0, 1, 2]) 0), (pure (.int 4))]) (pure (.int 0)) .Gt) (callS call ("_law_near" : Str) [(rdV (frz σ [0, 3, 0, 1, 2]) 0), (rdV (frz σ [0, 3, 0, 1, 2]) 3)]) (callS call ("_law_some" : Str) [(rdV (frz σ [0, 3, 0, 1, 2]) 0), (rdV (frz σ [0, 3, 0, 1, 2]) 1), (rdV (frz σ [0, 3, 0, 1, 2]) 2)])) 4 false) fun σ =>
  thenF (sRet (frz σ [0, 1, 2, 3, 4]) (ifeS (cmp1 (callF call ("_law_take" : Str) [(rd (frz σ [0, 1, 2, 3, 4]) 0), (pure (.int 4))]) (pure (.int 0)) .Gt) (tupS [(rdV (frz σ [0, 1, 2, 3, 4]) 3), (rdV (frz σ [0, 1, 2, 3, 4]) 4)]) (tupS [(rdV (frz σ [0, 1, 2, 3, 4]) 4), (rdV (frz σ [0, 1, 2, 3, 4]) 3)])) false) fun σ =>
  sEnd σ

def S__law_both_e0 (call : Str → List D → M D) (w : Nat) (σ : St) : M D :=
  (binS .Mult (rd σ 5) (rd σ 4))
def S__law_both_e1 (call : Str → List D → M D) (w : Nat) (σ : St) : M D :=
  (binS .Mult (rd σ 5) (rd σ 3))
def S__law_both (call : Str → List D → M D) (w : Nat) : List D → M D := runS ⟨false, false⟩ 2 6 fun σ =>
  thenF (sAsg σ (biS ("max" : Str) [(biS ("len" : Str) [(rd σ 0)]), (biS ("len" : Str) [(rd σ 1)])]) 2 false) fun σ =>
  thenF (sTup σ (tupS [(biS ("sum" : Str) [(rd σ 0)]), (biS ("sum" : Str) [(rd σ 1)])]) (.many [3, 4])) fun σ =>
  thenF (sRet (frz σ [0, 1, 2, 3, 4]) (tupS [(binS .Add (compS (dataI (rd (frz σ [0, 1, 2, 3, 4]) 0)) (fun d => bindG (.one 5) (wipe (frz σ [0, 1, 2, 3, 4]) [5]) d) (fun _ => pure true) (S__law_both_e0 call w)) (binS .Mult (lstS [(pure (.int 0))]) (binS .Sub (rd (frz σ [0, 1, 2, 3, 4]) 2) (biS ("len" : Str) [(rd (frz σ [0, 1, 2, 3, 4]) 0)])))), (binS .Add (compS (dataI (rd (frz σ [0, 1, 2, 3, 4]) 1)) (fun d => bindG (.one 5) (wipe (frz σ [0, 1, 2, 3, 4]) [5]) d) (fun _ => pure true) (S__law_both_e1 call w)) (binS .Mult (lstS [(pure (.int 0))]) (binS .Sub (rd (frz σ [0, 1, 2, 3, 4]) 2) (biS ("len" : Str) [(rd (frz σ [0, 1, 2, 3, 4]) 1)]))))]) false) fun σ =>
  sEnd σ

def S__law_gcd_c0 (call : Str → List D → M D) (w : Nat) (σ : St) : M D :=
  (cmp1 (rd σ 1) (pure (.int 0)) .Gt)
def S__law_gcd_b1 (call : Str → List D → M D) (w : Nat) (σ : St) : M Flow :=
  thenF (sParN (frz σ [1]) [false, true] [(rdV (frz σ [1]) 1), (binS .Mod (biS ("int" : Str) [(rd (frz σ [1]) 0)]) (rd (frz σ [1]) 1))] [0, 1]) fun σ =>
  sEnd σ
def S__law_gcd (call : Str → List D → M D) (w : Nat) : List D → M D := runS ⟨false, false⟩ 2 2 fun σ =>
  thenF (sWhile (S__law_gcd_c0 call w) (S__law_gcd_b1 call w) (w + msr σ) σ) fun σ =>
  thenF (sRetN σ 0) fun σ =>
  sEnd σ

def S__law_low (call : Str → List D → M D) (w : Nat) : List D → M D := runS ⟨false, false⟩ 2 3 fun σ =>
  thenF (sAsg (frz σ [1]) (callS call ("_law_gcd" : Str) [(biS ("abs" : Str) [(rd (frz σ [1]) 0)]), (rdV (frz σ [1]) 1)]) 2 false) fun σ =>
  thenF (sRet (frz σ [0, 1, 2]) (tupS [(binS .FloorDiv (rd (frz σ [0, 1, 2]) 0) (rd (frz σ [0, 1, 2]) 2)), (binS .FloorDiv (rd (frz σ [0, 1, 2]) 1) (rd (frz σ [0, 1, 2]) 2))]) false) fun σ =>
  sEnd σ

def S__law_is_draw_e0 (call : Str → List D → M D) (w : Nat) (σ : St) : M D :=
  (andS [(isiS (rd σ 1) ("int" : Str)), (notS (isiS (rd σ 1) ("bool" : Str))), (cmp2 (pure (.int 0)) (rd σ 1) (pure (.int 1000000)) .LtE .LtE)])
def S__law_is_draw (call : Str → List D → M D) (w : Nat) : List D → M D := runS ⟨false, false⟩ 1 2 fun σ =>
  thenF (sIf σ (orS [(notS (isiS (rd σ 0) ("tuple" : Str))), (notS (cmp2 (pure (.int 1)) (biS ("len" : Str) [(rd σ 0)]) (pure (.int 30)) .LtE .LtE))])
  (thenF (sRet (frz σ [0]) (pure (.bool false)) false) fun σ =>
    sEnd σ)
  (sEnd σ)) fun σ =>
  thenF (sRet (frz σ [0]) (andS [(biS ("all" : Str) [(compS (dataI (rd (frz σ [0]) 0)) (fun d => bindG (.one 1) (wipe (frz σ [0]) [1]) d) (fun _ => pure true) (S__law_is_draw_e0 call w))]), (cmp1 (ixS (rd (frz σ [0]) 0) (negS (pure (.int 1)))) (pure (.int 0)) .Gt)]) false) fun σ =>
  sEnd σ

def S__law_told (call : Str → List D → M D) (w : Nat) : List D → M D := runS ⟨false, false⟩ 3 3 fun σ =>
  thenF (sTry (thenF (sIf σ (cmp1 (rd σ 0) (pure (.int 6)) .Lt)
    (thenF (sRet (frz σ [0, 1, 2]) (callTS call (rd (frz σ [0, 1, 2]) 0) [("plain" : Str), ("mean" : Str), ("variance" : Str), ("least_number" : Str), ("middle_number" : Str), ("draw_of" : Str)] [(rdV (frz σ [0, 1, 2]) 1)]) false) fun σ =>
      sEnd σ)
    (sEnd σ)) fun σ =>
    thenF (sRet (frz σ [0, 1, 2]) (callTS call (binS .Sub (rd (frz σ [0, 1, 2]) 0) (pure (.int 6))) [("chance" : Str), ("above" : Str), ("upto" : Str), ("excess" : Str), ("lack" : Str), ("power_mean" : Str), ("both" : Str), ("has_mean" : Str)] [(rdV (frz σ [0, 1, 2]) 1), (rdV (frz σ [0, 1, 2]) 2)]) false) fun σ =>
    sEnd σ) (catchS (fun x => decide (x ∈ (["Malformed"] : List Str))) ("Malformed" : Str) (fun _ => true) (fun x => (some (.str "<malformed>"))))) fun σ =>
  sEnd σ

def S__law_bent (call : Str → List D → M D) (w : Nat) : List D → M D := runS ⟨false, false⟩ 2 3 fun σ =>
  thenF (sIf σ (andS [(isiS (rd σ 1) ("tuple" : Str)), (cmp1 (biS ("len" : Str) [(rd σ 1)]) (pure (.int 0)) .Gt), (cmp1 (callF call ("_law_take" : Str) [(rd σ 0), (pure (.int 3))]) (pure (.int 0)) .Gt)])
  (thenF (sAsg σ (callF call ("_law_take" : Str) [(rd σ 0), (biS ("len" : Str) [(rd σ 1)])]) 2 false) fun σ =>
    thenF (sRet (frz σ [0, 1, 2]) (binS .Add (binS .Add (slS (rd (frz σ [0, 1, 2]) 1) none (some (rd (frz σ [0, 1, 2]) 2))) (tupS [(callS call ("_law_bent" : Str) [(rdV (frz σ [0, 1, 2]) 0), (ixS (rd (frz σ [0, 1, 2]) 1) (rd (frz σ [0, 1, 2]) 2))])])) (slS (rd (frz σ [0, 1, 2]) 1) (some (binS .Add (rd (frz σ [0, 1, 2]) 2) (pure (.int 1)))) none)) true) fun σ =>
    sEnd σ)
  (sEnd σ)) fun σ =>
  thenF (sIf σ (isiS (rd σ 1) ("tuple" : Str))
  (thenF (sRet (frz σ [0, 1, 2]) (ixS (lstS [(biS ("list" : Str) [(rd (frz σ [0, 1, 2]) 1)]), (binS .Add (rd (frz σ [0, 1, 2]) 1) (tupS [(pure (.int 0))])), (slS (rd (frz σ [0, 1, 2]) 1) none (some (negS (pure (.int 1))))), (tupS []), (pure (.none)), (binS .Mult (rd (frz σ [0, 1, 2]) 1) (pure (.int 16))), (binS .Add (tupS [(pure (.int 0))]) (rd (frz σ [0, 1, 2]) 1)), (tupS [(pure (.int 0))])]) (callF call ("_law_take" : Str) [(rd (frz σ [0, 1, 2]) 0), (pure (.int 8))])) false) fun σ =>
    sEnd σ)
  (sEnd σ)) fun σ =>
  thenF (sRet (frz σ [0, 1, 2]) (ixS (lstS [(pure (.int 0)), (pure (.int 1)), (negS (pure (.int 1))), (pure (.int 1000000)), (pure (.int 1000001)), (cmp1 (rd (frz σ [0, 1, 2]) 1) (pure (.int 1)) .Eq), (pure (.str "1")), (pure (.none)), (tupS [(rdV (frz σ [0, 1, 2]) 1)]), (binS .Add (rd (frz σ [0, 1, 2]) 1) (pure (.int 1)))]) (callF call ("_law_take" : Str) [(rd (frz σ [0, 1, 2]) 0), (pure (.int 10))])) false) fun σ =>
  sEnd σ

def Sp__law_some (f : List D → M D) : Prop := ∀ (n wt : Int) (s : DS), OkS s → 1 ≤ n → n ≤ 30 → 9 ≤ wt → wt ≤ 1000000 → (f [tok, .int n, .int wt] s).sat fun d s' => ∃ xs : List Int, d = tupD xs ∧ IsDr xs ∧ (xs.length : Int) ≤ n ∧ (∀ e ∈ xs, e ≤ wt) ∧ OkS s'
theorem s__law_some {call : Str → List D → M D} {w : Nat} (hw : 1 ≤ w) (ht : call "_law_take" = takeP) : Sp__law_some (S__law_some call w) := by
  intro n wt s hs n1 n2 w1 w2
  unfold S__law_some
  rw [runS_3]
  have g0 := tv_lo (n := 4) (s := s) (by decide)
  have g1 := tv_hi (n := 4) (s := s) (by decide)
  have hs1 := OkS_ts (n := 4) hs
  obtain ⟨top, hm, m0, m1⟩ : ∃ m : Int, sel [.int 2, .int 4, .int 9, .int wt] (tv 4 s) = .int m ∧ 1 ≤ m ∧ m ≤ wt := sel_all (P := fun d => ∃ m : Int, d = .int m ∧ 1 ≤ m ∧ m ≤ wt) g0 (by simpa using g1) (by simp; omega)
  have hn : 0 < n := by omega
  have i0 := tv_lo (s := ts 4 s) hn
  have i1 := tv_hi (s := ts 4 s) hn
  have hs2 := OkS_ts (n := n) hs1
  have hr := range0 (n := 1 + tv n (ts 4 s)) (by omega) (by omega)
  have cp := compS_at (items := pure ((List.range (1 + tv n (ts 4 s)).toNat).map fun (i : Nat) => PyData.int (0 + (i : Int)))) (fun (i : Nat) => PyData.int (0 + (i : Int))) (bind := fun d => bindG (.one 5) (wipe [some (tok, false), some (.int n, false), some (.int wt, false), some (.int top, false), none, none] [5]) d) (g := S__law_some_e0 call w) (fun _ d => ∃ n, d = .int n ∧ 0 ≤ n ∧ n ≤ top) (List.range (1 + tv n (ts 4 s)).toNat) rfl (sl (by simp; omega)) (fun x hx s hs => ⟨_, rfl, by
    have hs1 := OkS_ts (n := 4) hs
    by_cases c : 0 < tv 4 s
    · have hp : 0 < top + 1 := by omega
      have q0 := tv_lo (s := ts 4 s) hp
      have q1 := tv_hi (s := ts 4 s) hp
      simp [S__law_some_e0, bd_at, stE_at, thenF_at, quiet_at, ifeS, tstS, cmp1, cmp2, binS, ixS, slS, optS, biS, callS, lstS, tupS, iterS, evsS_cons, asBool, asInt, sFor, sAsg, sIf, sRet, sExp, sTup, negS, notS, andS, orS, callF_eq, take_T ht hs, c, take_T ht hs1 hp (by omega)]
      exact ⟨⟨q0, by omega⟩, OkS_ts hs1⟩
    · simp [S__law_some_e0, bd_at, stE_at, thenF_at, quiet_at, ifeS, tstS, cmp1, cmp2, binS, ixS, slS, optS, biS, callS, lstS, tupS, iterS, evsS_cons, asBool, asInt, sFor, sAsg, sIf, sRet, sExp, sTup, negS, notS, andS, orS, callF_eq, take_T ht hs, c]
      exact ⟨by omega, hs1⟩⟩) hs2
  obtain ⟨d, s3, e3, ys, rfl, l3, r3, hs3⟩ := cp.ex
  obtain ⟨xs, rfl, l4, r4⟩ := dints_of l3 r3
  have hm : (xs.map PyData.int).length ≤ msr [some (tok, false), some (.int n, false), some (.int wt, false), some (.int top, false), some (.list (xs.map .int), true), none] := msr_list _ 4 _ true rfl
  rw [List.length_map] at hm
  obtain ⟨zs, m, e, h2, h3⟩ := strip_loop (c := S__law_some_c1 call w) (b := S__law_some_b2 call w) (fun row => [some (tok, false), some (.int n, false), some (.int wt, false), some (.int top, false), some (.list (row.map .int), true), none]) (by
      have := eqD_listnil []
      simp at this
      simp [S__law_some_c1, lstS, sline, this]) (fun ys z => by
      have := eqD_listnil (ys ++ [z])
      simp at this
      simp [S__law_some_c1, lstS, sline, this]) (fun ys z => by
      simp [S__law_some_b2, sPop0, ownI]) (w + msr [some (tok, false), some (.int n, false), some (.int wt, false), some (.int top, false), some (.list (xs.map .int), true), none]) xs (by omega)
  have hz : ∀ e ∈ zs, 0 ≤ e ∧ e ≤ wt := fun v hv => by
    have := r4 v (by rw [e]; exact List.mem_append_left _ hv)
    omega
  have hlz : (zs.length : Int) ≤ n := by
    have := congrArg List.length e
    simp at this l4
    omega
  have «hmw» := ‹sel [.int 2, .int 4, .int 9, .int wt] (tv 4 s) = .int top›
  simp at e3
  simp [startN, bd_at, stE_at, thenF_at, quiet_at, ifeS, tstS, cmp1, cmp2, binS, ixS, slS, optS, biS, callS, lstS, tupS, iterS, evsS_cons, asBool, asInt, sFor, sAsg, sIf, sRet, sExp, sTup, negS, notS, andS, orS, callF_eq, lstS, sline, take_T ht hs, getL_sel g0, g1, «hmw»]
  rw [compS_items]
  simp [bd_at, stE_at, thenF_at, quiet_at, ifeS, tstS, cmp1, cmp2, binS, ixS, slS, optS, biS, callS, lstS, tupS, iterS, evsS_cons, asBool, asInt, sFor, sAsg, sIf, sRet, sExp, sTup, negS, notS, andS, orS, callF_eq, take_T ht hs1 hn (by omega), hr, e3, h3]
  rcases h2 with hze | ⟨us, z, hze, hz0⟩ <;> subst hze
  · have := eqD_listnil []
    simp at this
    have k0 := tv_lo (n := 3) (s := s3) (by decide)
    have k1 := tv_hi (n := 3) (s := s3) (by decide)
    simp [this, take_T ht hs3, bd_at, stE_at, thenF_at, quiet_at, ifeS, tstS, cmp1, cmp2, binS, ixS, slS, optS, biS, callS, lstS, tupS, iterS, evsS_cons, asBool, asInt, sFor, sAsg, sIf, sRet, sExp, sTup, negS, notS, andS, orS, callF_eq, tupS, sline]
    refine ⟨[1 + tv 3 s3], rfl, ⟨by simp, by simp, by simp; omega, 1 + tv 3 s3, by simp, by omega⟩, by simp; omega, by simp; omega, OkS_ts hs3⟩
  · have := eqD_listnil (us ++ [z])
    simp at this
    have hzz := hz z (by simp)
    simp [this, bd_at, stE_at, thenF_at, quiet_at, ifeS, tstS, cmp1, cmp2, binS, ixS, slS, optS, biS, callS, lstS, tupS, iterS, evsS_cons, asBool, asInt, sFor, sAsg, sIf, sRet, sExp, sTup, negS, notS, andS, orS, callF_eq]
    refine ⟨us ++ [z], by simp, ⟨by simp, by simp at hlz ⊢; omega, fun v hv => by have := hz v hv; omega, z, by simp, by omega⟩, hlz, fun v hv => (hz v hv).2, hs3⟩
/-- any few places hold little together -/
def Few (m : Nat) (B : Int) (row : List Int) : Prop := ∀ S : List Nat, S.Nodup → S.length ≤ m → (S.map fun (j : Nat) => ix row j).sum ≤ B
theorem few_start {M : Int} {row : List Int} (h0 : 0 ≤ M) (h : ∀ e ∈ row, e ≤ M) (m : Nat) : Few m (m * M) row := by
  intro S _ hl
  have key : ∀ S : List Nat, (S.map fun (j : Nat) => ix row j).sum ≤ (S.length : Int) * M := by
    intro S
    induction S with
    | nil => simp
    | cons j S ih =>
      have : ix row j ≤ M := by
        by_cases hj : j < row.length
        · exact h _ (ix_mem (by omega) (by omega))
        · unfold ix
          rw [List.getD_eq_getElem?_getD, Int.toNat_natCast, List.getElem?_eq_none (by omega)]
          exact h0
      simp [Int.add_mul]
      omega
  have := key S
  have h2 : (S.length : Int) * M ≤ (m : Int) * M := Int.mul_le_mul_of_nonneg_right (by omega) h0
  omega
theorem few_one {B : Int} {row : List Int} (h : Few 1 B row) : ∀ e ∈ row, e ≤ B := by
  intro e he
  obtain ⟨k, hk, rfl⟩ := List.mem_iff_getElem.mp he
  have := h [k] (by simp) (by simp)
  simp [ix, hk] at this
  exact this
theorem few_less {m n : Nat} {B : Int} {row : List Int} (h : Few m B row) (hn : n ≤ m) : Few n B row := fun S h1 h2 => h S h1 (by omega)
theorem sum_one (i : Nat) (v : Int) : ∀ S : List Nat, S.Nodup → (S.map fun j => if j = i then v else 0).sum = if i ∈ S then v else 0
  | [], _ => by simp
  | j :: S, h => by
    rw [List.nodup_cons] at h
    have ih := sum_one i v S h.2
    simp only [List.map_cons, List.sum_cons, ih]
    by_cases c : j = i
    · subst c
      simp [h.1]
    · have c' : ¬ i = j := fun z => c z.symm
      simp [c, c']
theorem sum_addAt {row : List Int} {i : Nat} (hi : i < row.length) (v : Int) (S : List Nat) (hS : S.Nodup) : (S.map fun (j : Nat) => ix (addAt row i v) j).sum = (S.map fun (j : Nat) => ix row j).sum + if i ∈ S then v else 0 := by
  rw [← sum_one i v S hS]
  clear hS
  induction S with
  | nil => simp
  | cons j S ih =>
    rw [List.map_cons, List.sum_cons, List.map_cons, List.sum_cons, List.map_cons, List.sum_cons, ih, ix_addAt hi]
    omega
/-- parts taken from one place, put to others -/
theorem few_move {m : Nat} {B p : Int} {row r' : List Int} {i : Nat} (h : Few (m + 1) B row) (hp : 0 ≤ p) (hq : p ≤ ix row i)
    (hr : ∀ S : List Nat, S.Nodup → (S.map fun (j : Nat) => ix r' j).sum ≤ (S.map fun (j : Nat) => ix row j).sum + if i ∈ S then 0 else p) : Few m B r' := by
  intro S hS hl
  have h1 := hr S hS
  by_cases c : i ∈ S
  · have := h S hS (by omega)
    rw [if_pos c] at h1
    omega
  · have := h (i :: S) (List.nodup_cons.mpr ⟨c, hS⟩) (by simp; omega)
    rw [if_neg c] at h1
    simp at this
    omega
def nr (a row : List Int) (v3 v4 v5 v6 v7 : Sl) : St := [some (tok, false), some (tupD a, false), some (.list (row.map .int), true), v3, v4, v5, v6, v7]
structure NrI (m : Nat) (B S : Int) (L : Nat) (row : List Int) : Prop where
  len : row.length = L
  nn : ∀ e ∈ row, 0 ≤ e
  few : Few m B row
  sum : row.sum = S
theorem NrI.le {m : Nat} {B S : Int} {L : Nat} {row : List Int} (h : NrI (m + 1) B S L row) : ∀ e ∈ row, e ≤ B := few_one (few_less h.few (by omega))
theorem addAt_nn {r : List Int} {i : Nat} {v : Int} (hr : ∀ e ∈ r, 0 ≤ e) (hv : 0 ≤ ix r i + v) : ∀ e ∈ addAt r i v, 0 ≤ e := fun x hx => by
  rcases List.mem_or_eq_of_mem_set hx with hx | rfl
  · exact hr x hx
  · exact hv
theorem sub_addAt (r : List Int) (i : Nat) (v : Int) : r.set i (ix r i - v) = addAt r i (-v) := by
  unfold addAt
  rw [Int.sub_eq_add_neg]
/-- a part of one place goes to another one -/
theorem NrI.move {m : Nat} {B S : Int} {L : Nat} {row : List Int} (h : NrI (m + 1) B S L row) {i k : Nat} (hi : i < L) (hk : k < L) {p : Int} (h0 : 0 ≤ p) (h1 : p ≤ ix row i) : NrI m B S L (addAt (addAt row i (-p)) k p) := by
  have hl := h.len
  have nn1 : ∀ e ∈ addAt row i (-p), 0 ≤ e := addAt_nn h.nn (by omega)
  have hik : 0 ≤ ix (addAt row i (-p)) k := nn1 _ (ix_mem (by omega) (by simp; omega))
  refine ⟨by simp [hl], addAt_nn nn1 (by omega), ?_, ?_⟩
  · refine few_move h.few h0 h1 fun T hT => ?_
    rw [sum_addAt (by simp; omega) _ T hT, sum_addAt (by omega) _ T hT]
    by_cases c1 : i ∈ T <;> by_cases c2 : k ∈ T <;> simp [c1, c2] <;> omega
  · rw [addAt_sum (by simp; omega), addAt_sum (by omega), h.sum]
    omega
/-- a part of one place goes to both sides of it -/
theorem NrI.part {m : Nat} {B S : Int} {L : Nat} {row : List Int} (h : NrI (m + 1) B S L row) {i : Nat} (hi : 1 ≤ i) (hk : i + 1 < L) {p : Int} (h0 : 0 ≤ p) (h1 : 2 * p ≤ ix row i) : NrI m B S L (addAt (addAt (addAt row i (-(2 * p))) (i - 1) p) (i + 1) p) := by
  have hl := h.len
  have nn1 : ∀ e ∈ addAt row i (-(2 * p)), 0 ≤ e := addAt_nn h.nn (by omega)
  have hik : 0 ≤ ix (addAt row i (-(2 * p))) ((i - 1 : Nat) : Int) := nn1 _ (ix_mem (by omega) (by simp; omega))
  have nn2 : ∀ e ∈ addAt (addAt row i (-(2 * p))) (i - 1) p, 0 ≤ e := addAt_nn nn1 (by omega)
  have hik2 : 0 ≤ ix (addAt (addAt row i (-(2 * p))) (i - 1) p) ((i + 1 : Nat) : Int) := nn2 _ (ix_mem (by omega) (by simp; omega))
  refine ⟨by simp [hl], addAt_nn nn2 (by omega), ?_, ?_⟩
  · refine few_move (p := 2 * p) h.few (by omega) h1 fun T hT => ?_
    rw [sum_addAt (by simp; omega) _ T hT, sum_addAt (by simp; omega) _ T hT, sum_addAt (by omega) _ T hT]
    by_cases c1 : i ∈ T <;> by_cases c2 : i - 1 ∈ T <;> by_cases c3 : i + 1 ∈ T <;> simp [c1, c2, c3] <;> omega
  · rw [addAt_sum (by simp; omega), addAt_sum (by simp; omega), addAt_sum (by omega), h.sum]
    omega
theorem NrI.less {m : Nat} {B S : Int} {L : Nat} {row : List Int} (h : NrI (m + 1) B S L row) : NrI m B S L row := ⟨h.len, h.nn, few_less h.few (by omega), h.sum⟩
abbrev NrP (a : List Int) (m : Nat) (B S : Int) (L : Nat) (v3 : Sl) (σ : St) (s' : DS) : Prop := OkS s' ∧ ∃ row' v4 v5 v6 v7, σ = nr a row' v3 v4 v5 v6 v7 ∧ NrI m B S L row'
theorem near_turn {call : Str → List D → M D} {w : Nat} (ht : call "_law_take" = takeP) {a row : List Int} {m : Nat} {B S : Int} {L : Nat} (h : NrI (m + 1) B S L row) (h1 : 1 ≤ L) (h2 : L ≤ 100) (hB : B ≤ 1000000) (v3 v4 v5 v6 v7 : Sl) {s : DS} (hs : OkS s) :
    (S__law_near_b3 call w (nr a row v3 v4 v5 v6 v7) s).sat (NC (NrP a m B S L v3)) := by
  have hl := h.len
  have hL : (0 : Int) < (row.length : Int) := by omega
  have hL' : (row.length : Int) < 2 ^ 64 := by omega
  have i0 := tv_lo (s := s) hL
  have i1 := tv_hi (s := s) hL
  have hs1 := OkS_ts (n := row.length) hs
  have k0 := tv_lo (s := ts row.length s) hL
  have k1 := tv_hi (s := ts row.length s) hL
  have hs2 := OkS_ts (n := row.length) hs1
  simp [S__law_near_b3, nr, bd_at, stE_at, thenF_at, quiet_at, ifeS, tstS, cmp1, cmp2, binS, ixS, slS, optS, biS, callS, lstS, tupS, iterS, evsS_cons, asBool, asInt, sFor, sAsg, sIf, sRet, sExp, sTup, negS, notS, andS, orS, callF_eq, take_T ht hs hL hL', take_T ht hs1 hL hL']
  obtain ⟨i, hi⟩ : ∃ i : Nat, tv row.length s = (i : Int) := ⟨_, (Int.toNat_of_nonneg i0).symm⟩
  obtain ⟨k, hk⟩ : ∃ i : Nat, tv row.length (ts row.length s) = (i : Int) := ⟨_, (Int.toNat_of_nonneg k0).symm⟩
  rw [hi] at i1 ⊢
  rw [hk] at k1 ⊢
  generalize ts row.length (ts row.length s) = s2 at *
  have gi := getL_N (xs := row) (i := i) (by omega)
  have hbi := h.le _ (ix_mem (xs := row) (i := (i : Int)) (by omega) (by omega))
  have hni := h.nn _ (ix_mem (xs := row) (i := (i : Int)) (by omega) (by omega))
  have hP : 0 < ix row i + 1 := by omega
  have hP' : ix row i + 1 < 2 ^ 64 := by omega
  have p0 := tv_lo (s := s2) hP
  have p1 := tv_hi (s := s2) hP
  have hs3 := OkS_ts (n := ix row i + 1) hs2
  simp [gi, take_T ht hs2 hP hP']
  generalize tv (ix row i + 1) s2 = p at *
  generalize ts (ix row i + 1) s2 = s3 at *
  have hs4 := OkS_ts (n := 3) hs3
  have mv : S__law_near_t1 call w (nr a row v3 (some (.int (i : Int), false)) (some (.int (k : Int), false)) (some (.int p, false)) v7) =
      pure (.nx (nr a (addAt (addAt row i (-p)) k p) v3 (some (.int (i : Int), false)) (some (.int (k : Int), false)) (some (.int p, false)) v7)) := by
    have s1 := sSub_sub (σ := nr a row v3 (some (.int (i : Int), false)) (some (.int (k : Int), false)) (some (.int p, false)) v7) (l := 2) (i := i) (xs := row) (v := p) rfl (by omega)
    have gk := getL_N (xs := addAt row i (-p)) (i := k) (by simp; omega)
    have s2 := sSub_add (σ := nr a (addAt row i (-p)) v3 (some (.int (i : Int), false)) (some (.int (k : Int), false)) (some (.int p, false)) v7) (l := 2) (i := k) (xs := addAt row i (-p)) (v := p) rfl (by simp; omega)
    simp [nr] at s1 s2
    simp [S__law_near_t1, nr, gi, s1, gk, s2]
  have mv2 : NrI m B S L (addAt (addAt row i (-p)) k p) := h.move (by omega) (by omega) p0 (by omega)
  have els : (S__law_near_f2 call w (nr a row v3 (some (.int (i : Int), false)) (some (.int (k : Int), false)) (some (.int p, false)) v7) (ts 3 s3)).sat (NC (NrP a m B S L v3)) := by
    simp only [nr] at mv
    by_cases c : i ≤ k
    · have c' : (i : Int) ≤ (k : Int) := by omega
      simp [S__law_near_f2, nr, bd_at, stE_at, thenF_at, quiet_at, ifeS, tstS, cmp1, cmp2, binS, ixS, slS, optS, biS, callS, lstS, tupS, iterS, evsS_cons, asBool, asInt, sFor, sAsg, sIf, sRet, sExp, sTup, negS, notS, andS, orS, callF_eq, c', mv]
      exact ⟨hs4, _, _, _, _, _, rfl, mv2⟩
    · have c' : ¬ (i : Int) ≤ (k : Int) := by omega
      by_cases c2 : tv 3 (ts 3 s3) = 0
      · simp [S__law_near_f2, nr, bd_at, stE_at, thenF_at, quiet_at, ifeS, tstS, cmp1, cmp2, binS, ixS, slS, optS, biS, callS, lstS, tupS, iterS, evsS_cons, asBool, asInt, sFor, sAsg, sIf, sRet, sExp, sTup, negS, notS, andS, orS, callF_eq, c', take_T ht hs4, c2, mv]
        exact ⟨OkS_ts hs4, _, _, _, _, _, rfl, mv2⟩
      · simp [S__law_near_f2, nr, bd_at, stE_at, thenF_at, quiet_at, ifeS, tstS, cmp1, cmp2, binS, ixS, slS, optS, biS, callS, lstS, tupS, iterS, evsS_cons, asBool, asInt, sFor, sAsg, sIf, sRet, sExp, sTup, negS, notS, andS, orS, callF_eq, c', take_T ht hs4, c2]
        exact ⟨OkS_ts hs4, _, _, _, _, _, rfl, h.less⟩
  by_cases c1 : tv 3 s3 = 0 ∧ 0 < i ∧ i + 1 < row.length
  · obtain ⟨c1, c2, c3⟩ := c1
    have c2' : (0 : Int) < (i : Int) := by omega
    have c3' : (i : Int) + 1 < (row.length : Int) := by omega
    have hd : binop .FloorDiv (.int p) (.int 2) = pure (.int (p / 2)) := binop_div (by decide) (by decide)
    have bp : Bt 30 (p / 2) := Bt.of_lt (by omega) (by omega)
    have hm : binop .Mult (.int 2) (.int (p / 2)) = pure (.int (2 * (p / 2))) := bmul (n := 2) (Bt.of_lt (by decide) (by decide)) bp
    have q0 : 0 ≤ p / 2 := by omega
    generalize hh2 : p / 2 = h2 at *
    have s1 := sSub_sub (σ := nr a row v3 (some (.int (i : Int), false)) (some (.int (k : Int), false)) (some (.int p, false)) (some (.int h2, false))) (l := 2) (i := i) (xs := row) (v := 2 * h2) rfl (by omega)
    have g2 := getL_N (xs := addAt row i (-(2 * h2))) (i := i - 1) (by simp; omega)
    have s2 := sSub_add (σ := nr a (addAt row i (-(2 * h2))) v3 (some (.int (i : Int), false)) (some (.int (k : Int), false)) (some (.int p, false)) (some (.int h2, false))) (l := 2) (i := i - 1) (xs := addAt row i (-(2 * h2))) (v := h2) rfl (by simp; omega)
    have g3 := getL_N (xs := addAt (addAt row i (-(2 * h2))) (i - 1) h2) (i := i + 1) (by simp; omega)
    have s5 := sSub_add (σ := nr a (addAt (addAt row i (-(2 * h2))) (i - 1) h2) v3 (some (.int (i : Int), false)) (some (.int (k : Int), false)) (some (.int p, false)) (some (.int h2, false))) (l := 2) (i := i + 1) (xs := addAt (addAt row i (-(2 * h2))) (i - 1) h2) (v := h2) rfl (by simp; omega)
    have e1 : ((i - 1 : Nat) : Int) = (i : Int) - 1 := by omega
    have e2 : ((i + 1 : Nat) : Int) = (i : Int) + 1 := by omega
    rw [e1] at g2 s2
    rw [e2] at g3 s5
    have hh : NrI m B S L (addAt (addAt (addAt row i (-(2 * h2))) (i - 1) h2) (i + 1) h2) := h.part (by omega) (by omega) q0 (by omega)
    generalize addAt (addAt (addAt row i (-(2 * h2))) (i - 1) h2) (i + 1) h2 = r3 at *
    generalize addAt (addAt row i (-(2 * h2))) (i - 1) h2 = r2 at *
    generalize addAt row i (-(2 * h2)) = r1 at *
    simp [nr] at s1 s2 s5
    simp [bd_at, stE_at, thenF_at, quiet_at, ifeS, tstS, cmp1, cmp2, binS, ixS, slS, optS, biS, callS, lstS, tupS, iterS, evsS_cons, asBool, asInt, sFor, sAsg, sIf, sRet, sExp, sTup, negS, notS, andS, orS, callF_eq, take_T ht hs3, c1, c2, c3', S__law_near_t0, hd, hm, gi, s1, g2, s2, g3, s5]
    exact ⟨hs4, r3, _, _, _, _, rfl, hh⟩
  · by_cases d1 : tv 3 s3 = 0
    · by_cases d2 : 0 < i
      · have d3 : ¬ (i : Int) + 1 < (row.length : Int) := fun z => c1 ⟨d1, d2, by omega⟩
        have d2' : (0 : Int) < (i : Int) := by omega
        simp [bd_at, stE_at, thenF_at, quiet_at, ifeS, tstS, cmp1, cmp2, binS, ixS, slS, optS, biS, callS, lstS, tupS, iterS, evsS_cons, asBool, asInt, sFor, sAsg, sIf, sRet, sExp, sTup, negS, notS, andS, orS, callF_eq, take_T ht hs3, d1, d2, d3]
        exact els
      · have d2' : ¬ (0 : Int) < (i : Int) := by omega
        simp [bd_at, stE_at, thenF_at, quiet_at, ifeS, tstS, cmp1, cmp2, binS, ixS, slS, optS, biS, callS, lstS, tupS, iterS, evsS_cons, asBool, asInt, sFor, sAsg, sIf, sRet, sExp, sTup, negS, notS, andS, orS, callF_eq, take_T ht hs3, d1, d2]
        exact els
    · simp [bd_at, stE_at, thenF_at, quiet_at, ifeS, tstS, cmp1, cmp2, binS, ixS, slS, optS, biS, callS, lstS, tupS, iterS, evsS_cons, asBool, asInt, sFor, sAsg, sIf, sRet, sExp, sTup, negS, notS, andS, orS, callF_eq, take_T ht hs3, d1]
      exact els
def Sp__law_near2 (f : List D → M D) : Prop := ∀ (a : List Int) (wt : Int) (s : DS), OkS s → IsDr a → a.length ≤ 28 → 0 ≤ wt → wt ≤ 250000 → (∀ e ∈ a, e ≤ wt) → (f [tok, tupD a] s).sat fun d s' => ∃ b : List Int, d = tupD b ∧ IsDr b ∧ b.length ≤ a.length + 2 ∧ OkS s'
theorem s__law_near {call : Str → List D → M D} {w : Nat} (hw : 1 ≤ w) (ht : call "_law_take" = takeP) : Sp__law_near2 (S__law_near call w) := by
  intro a wt s hs ha hla w0 w1 hwt
  unfold S__law_near
  rw [runS_2]
  have ea : binop .Add (.list (a.map .int)) (.list [.int 0, .int 0]) = pure (.list ((a ++ [0, 0]).map .int)) := by
    rw [binop_addL (sl (by simp; omega))]
    simp
  have g0 := tv_lo (n := 3) (s := s) (by decide)
  have g1 := tv_hi (n := 3) (s := s) (by decide)
  have hs1 := OkS_ts (n := 3) hs
  have hrg := range0 (n := 1 + tv 3 s) (by omega) (by omega)
  have start : NrI 4 (4 * wt) a.sum (a.length + 2) (a ++ [0, 0]) := by
    refine ⟨by simp, fun e he => ?_, few_start w0 (fun e he => ?_) 4, by simp⟩
    · rcases List.mem_append.mp he with h | h
      · exact (ha.wt e h).1
      · simp at h; omega
    · rcases List.mem_append.mp he with h | h
      · exact hwt e h
      · simp at h; omega
  have hsum := ha.sum
  generalize hrow : a ++ [0, 0] = row at *
  have lp := forL_ds (bind := bindG (.one 3)) (b := S__law_near_b3 call w) ((List.range (1 + tv 3 s).toNat).map fun (i : Nat) => PyData.int (0 + (i : Int))) (fun k σ s => OkS s ∧ ∃ r v3 v4 v5 v6 v7, σ = nr a r v3 v4 v5 v6 v7 ∧ (k ≤ 3 → NrI (4 - k) (4 * wt) a.sum (a.length + 2) r))
    (fun k v σ s hk ⟨hs, r, v3, v4, v5, v6, v7, e, hr⟩ => by
      subst e
      have hk3 : k < 3 := by
        have := (List.getElem?_eq_some_iff.mp hk).1
        simp at this
        omega
      have hr := hr (by omega)
      rw [show 4 - k = (3 - k) + 1 by omega] at hr
      refine ⟨_, rfl, ?_⟩
      have := near_turn (w := w) ht (a := a) hr (by omega) (by omega) (by omega) (some (v, false)) v4 v5 v6 v7 hs
      refine Res.sat.mono this fun fl s' h => ?_
      cases fl with
      | nx σ => obtain ⟨h1, r2, x4, x5, x6, x7, e, h3⟩ := h; exact ⟨h1, r2, _, x4, x5, x6, x7, e, fun _ => by rw [show 4 - (k + 1) = 3 - k by omega]; exact h3⟩
      | ct σ => obtain ⟨h1, r2, x4, x5, x6, x7, e, h3⟩ := h; exact ⟨h1, r2, _, x4, x5, x6, x7, e, fun _ => by rw [show 4 - (k + 1) = 3 - k by omega]; exact h3⟩
      | _ => exact h.elim) (σ := nr a row none none none none none) (s := ts 3 s) ⟨hs1, row, none, none, none, none, none, rfl, fun _ => start⟩
  obtain ⟨fl, s', e, h⟩ := lp.ex
  cases fl with
  | nx σ' =>
    obtain ⟨hs', r, v3, v4, v5, v6, v7, rfl, hr⟩ := h
    simp at hr
    have hr := hr (by omega)
    have hr1 : NrI 1 (4 * wt) a.sum (a.length + 2) r := ⟨hr.len, hr.nn, few_less hr.few (by omega), hr.sum⟩
    have hle := few_one hr1.few
    have hx : ∃ x ∈ r, x ≠ 0 := by
      refine Classical.byContradiction fun hc => ?_
      have : r.sum = 0 := by
        have key : ∀ l : List Int, (∀ x ∈ l, x = 0) → l.sum = 0 := by
          intro l
          induction l with
          | nil => intro _; rfl
          | cons x l ih =>
            intro h
            rw [List.sum_cons, h x (List.mem_cons_self ..), ih fun y hy => h y (List.mem_cons_of_mem _ hy)]
            rfl
        exact key r fun x hx => Classical.byContradiction fun h0 => hc ⟨x, hx, h0⟩
      have := hr.sum
      omega
    have hm : (r.map PyData.int).length ≤ msr (nr a r v3 v4 v5 v6 v7) := msr_list _ 2 _ true rfl
    rw [List.length_map] at hm
    have key := strip_ne (c := S__law_near_c4 call w) (b := S__law_near_b5 call w) (fun r => nr a r v3 v4 v5 v6 v7) (fun ys z => by simp [S__law_near_c4, nr]) (fun ys z => by simp [S__law_near_b5, nr, sPop0, ownI]) (w + msr (nr a r v3 v4 v5 v6 v7)) r (by omega) hx
    simp only [nr] at e key
    simp at e
    simp [startN, biS, lstS, sline, ea, S__law_near_k8, bd_at, stE_at, thenF_at, quiet_at, ifeS, tstS, cmp1, cmp2, binS, ixS, slS, optS, biS, callS, lstS, tupS, iterS, evsS_cons, asBool, asInt, sFor, sAsg, sIf, sRet, sExp, sTup, negS, notS, andS, orS, callF_eq, take_T ht hs, hrg, e, S__law_near_k7, key, S__law_near_k6]
    obtain ⟨mm, hmm⟩ := strp_pre r
    have hlen := congrArg List.length hmm
    simp at hlen
    have hrl := hr.len
    obtain ⟨x, hx, h0⟩ := hx
    have hmem := mem_strp hx h0
    refine ⟨strp r, by simp, ⟨List.length_pos_of_mem hmem, by omega, fun v hv => ?_, ?_⟩, by omega, hs'⟩
    · have h1 := strp_mem hv
      have := hr.nn v h1
      have := hle v h1
      omega
    · obtain ⟨ys, z, hz⟩ := snoc_of (xs := strp r) (List.length_pos_of_mem hmem)
      refine ⟨z, by rw [hz]; simp, ?_⟩
      have hz2 : z ∈ strp r := by rw [hz]; simp
      have := hr.nn z (strp_mem hz2)
      have hne : z ≠ 0 := strp_last hz
      omega
  | _ => exact h.elim
def Sp__law_pair2 (f : List D → M D) : Prop := ∀ (n wt : Int) (s : DS), OkS s → 1 ≤ n → n ≤ 28 → 9 ≤ wt → wt ≤ 250000 → (f [tok, .int n, .int wt] s).sat fun d s' => ∃ a b : List Int, d = .tuple [tupD a, tupD b] ∧ IsDr a ∧ IsDr b ∧ (a.length : Int) ≤ n + 2 ∧ (b.length : Int) ≤ n + 2 ∧ OkS s'
theorem s__law_pair {call : Str → List D → M D} {w : Nat} (ht : call "_law_take" = takeP) (h1 : Sp__law_some (call "_law_some")) (h2 : Sp__law_near2 (call "_law_near")) : Sp__law_pair2 (S__law_pair call w) := by
  intro n wt s hs n1 n2 w1 w2
  unfold S__law_pair
  rw [runS_3]
  obtain ⟨d, s1, e1, a, rfl, ha, la, wa, hs1⟩ := (h1 n wt s hs n1 (by omega) w1 (by omega)).ex
  have hs2 := OkS_ts (n := 4) hs1
  have fin : ∀ (b : List Int) (s' : DS), OkS s' → IsDr b → (b.length : Int) ≤ n + 2 →
    ((stE (ifeS (cmp1 (callF call "_law_take" [pure tok, pure (.int 4)]) (pure (.int 0)) .Gt) (tupS [pure (tupD a), pure (tupD b)]) (tupS [pure (tupD b), pure (tupD a)])) [some (tok, false), some (.int n, false), some (.int wt, false), some (tupD a, false), some (tupD b, false)] (fun d => (pure (.ret d (false && isL d)) : M Flow))) s').sat fun fl s' => ∃ (a b : List Int) (o : Bool), fl = .ret (.tuple [tupD a, tupD b]) o ∧ IsDr a ∧ IsDr b ∧ (a.length : Int) ≤ n + 2 ∧ (b.length : Int) ≤ n + 2 ∧ OkS s' := fun b s' hs' hb hbl => by
    have hs3 := OkS_ts (n := 4) hs'
    by_cases c : 0 < tv 4 s'
    · simp [bd_at, stE_at, thenF_at, quiet_at, ifeS, tstS, cmp1, cmp2, binS, ixS, slS, optS, biS, callS, lstS, tupS, iterS, evsS_cons, asBool, asInt, sFor, sAsg, sIf, sRet, sExp, sTup, negS, notS, andS, orS, callF_eq, take_T ht hs', c, tupS, sline]
      exact ⟨a, b, ⟨rfl, rfl⟩, ha, hb, by omega, hbl, hs3⟩
    · simp [bd_at, stE_at, thenF_at, quiet_at, ifeS, tstS, cmp1, cmp2, binS, ixS, slS, optS, biS, callS, lstS, tupS, iterS, evsS_cons, asBool, asInt, sFor, sAsg, sIf, sRet, sExp, sTup, negS, notS, andS, orS, callF_eq, take_T ht hs', c, tupS, sline]
      exact ⟨b, a, ⟨rfl, rfl⟩, hb, ha, hbl, by omega, hs3⟩
  by_cases c : 0 < tv 4 s1
  · obtain ⟨d, s4, e4, b, rfl, hb, hbl, hs4⟩ := (h2 a wt (ts 4 s1) hs2 ha (by omega) (by omega) (by omega) wa).ex
    obtain ⟨fl, s5, e5, a', b', o, rfl, q1, q2, q3, q4, q5⟩ := (fin b s4 hs4 hb (by omega)).ex
    simp [bd_at, stE_at, thenF_at, quiet_at, ifeS, tstS, cmp1, cmp2, binS, ixS, slS, optS, biS, callS, lstS, tupS, iterS, evsS_cons, asBool, asInt, sFor, sAsg, sIf, sRet, sExp, sTup, negS, notS, andS, orS, callF_eq, tupS, sline] at e5
    simp [startN, bd_at, stE_at, thenF_at, quiet_at, ifeS, tstS, cmp1, cmp2, binS, ixS, slS, optS, biS, callS, lstS, tupS, iterS, evsS_cons, asBool, asInt, sFor, sAsg, sIf, sRet, sExp, sTup, negS, notS, andS, orS, callF_eq, e1, take_T ht hs1, c, e4, tupS, sline]
    rw [e5]
    simp
    exact ⟨a', b', ⟨rfl, rfl⟩, q1, q2, q3, q4, q5⟩
  · obtain ⟨d, s4, e4, b, rfl, hb, hbl, _, hs4⟩ := (h1 n wt (ts 4 s1) hs2 n1 (by omega) w1 (by omega)).ex
    obtain ⟨fl, s5, e5, a', b', o, rfl, q1, q2, q3, q4, q5⟩ := (fin b s4 hs4 hb (by omega)).ex
    simp [bd_at, stE_at, thenF_at, quiet_at, ifeS, tstS, cmp1, cmp2, binS, ixS, slS, optS, biS, callS, lstS, tupS, iterS, evsS_cons, asBool, asInt, sFor, sAsg, sIf, sRet, sExp, sTup, negS, notS, andS, orS, callF_eq, tupS, sline] at e5
    simp [startN, bd_at, stE_at, thenF_at, quiet_at, ifeS, tstS, cmp1, cmp2, binS, ixS, slS, optS, biS, callS, lstS, tupS, iterS, evsS_cons, asBool, asInt, sFor, sAsg, sIf, sRet, sExp, sTup, negS, notS, andS, orS, callF_eq, e1, take_T ht hs1, c, e4, tupS, sline]
    rw [e5]
    simp
    exact ⟨a', b', ⟨rfl, rfl⟩, q1, q2, q3, q4, q5⟩
def xr (a b : List Int) : List Int := pad (max a.length b.length) b.sum a
def yr (a b : List Int) : List Int := pad (max a.length b.length) a.sum b
theorem gcd_loopN {c : St → M D} {b : St → M Flow} (st : D → D → St) (hc : ∀ i j : Nat, c (st (.int (i : Int)) (.int (j : Int))) = pure (.bool (!decide (j = 0))))
    (hb : ∀ i j : Nat, 0 < j → b (st (.int (i : Int)) (.int (j : Int))) = pure (.nx (st (.int (j : Int)) (.int ((i % j : Nat) : Int))))) : ∀ (n : Nat) (x y : Nat), y < n → sWhile c b n (st (.int (x : Int)) (.int (y : Int))) = pure (.nx (st (.int ((Nat.gcd x y : Nat) : Int)) (.int 0)))
  | 0, x, y, h => absurd h (Nat.not_lt_zero _)
  | n + 1, x, y, h => by
    unfold sWhile whileL
    rw [hc]
    by_cases h0 : y = 0
    · subst h0
      simp
    · have ih := gcd_loopN st hc hb n y (x % y) (by have := Nat.mod_lt x (Nat.pos_of_ne_zero h0); omega)
      have hg : Nat.gcd x y = Nat.gcd y (x % y) := by rw [Nat.gcd_comm x y, Nat.gcd_rec, Nat.gcd_comm]
      simp only [h0, decide_false, Bool.not_false, tstS_bool, stE_pure, if_true]
      rw [hb x y (Nat.pos_of_ne_zero h0), pure_bd, hg]
      unfold sWhile at ih
      exact ih
/-- the greatest common part of a row -/
def Sp__law_says (f : List D → M D) : Prop := ∀ a b : Bool, f [.bool a, .bool b] = pure (.bool (a == b))
theorem s__law_says {call : Str → List D → M D} {w : Nat} : Sp__law_says (S__law_says call w) := by
  intro a b
  unfold S__law_says
  rw [runS_2]
  simp [startN]
def Sp__law_both (f : List D → M D) : Prop := ∀ a b : List Int, IsDr a → IsDr b → f [tupD a, tupD b] = pure (.tuple [lisD (xr a b), lisD (yr a b)])
theorem s__law_both {call : Str → List D → M D} {w : Nat} : Sp__law_both (S__law_both call w) := by
  intro a b ha hb
  unfold S__law_both
  rw [runS_2]
  have la := ha.most
  have lb := hb.most
  have hmx : max (a.length : Int) (b.length : Int) = ((max a.length b.length : Nat) : Int) := by omega
  simp [startN, biS, hmx, lstS, tupS, sline]
  rw [compS_map a .int (fun x => .int (x * b.sum)) rfl (sl (by omega)) fun x hx => ⟨_, rfl, by simp [S__law_both_e0, bmul (ha.bt hx) hb.sumBt]⟩]
  rw [zeros (by omega) (by omega)]
  simp
  rw [binop_addL (sl (by simp; omega)), pad_D]
  simp [biS]
  rw [compS_map b .int (fun x => .int (x * a.sum)) rfl (sl (by omega)) fun x hx => ⟨_, rfl, by simp [S__law_both_e1, bmul (hb.bt hx) ha.sumBt]⟩]
  rw [zeros (by omega) (by omega)]
  simp
  rw [binop_addL (sl (by simp; omega)), pad_D]
  simp [tupS, sline, xr, yr, lisD]
end Py

set_option Elab.async false
set_option linter.all false
set_option maxRecDepth 100000
namespace Py
open PySem
def malE : Exc := ⟨"Malformed", []⟩
def badN : List D := [.int (-1), .none, .bool true, .str "1", .tuple [.int 1], .list [.int 2]]
@[simp] theorem iterC_enum1 (ds : List D) : iterC "enumerate" [.tuple ds, .int 1] = pure (enumD 1 ds) := of_eq_true (eq_self _)
theorem enum_map : ∀ (xs : List Int) (k : Int), enumD k (xs.map PyData.int) = (List.range xs.length).map fun (i : Nat) => PyData.tuple [.int (k + (i : Int)), .int (ix xs i)]
  | [], k => rfl
  | x :: xs, k => by
    rw [List.map_cons, enumD, enum_map xs (k + 1), List.length_cons, List.range_succ_eq_map]
    simp
    refine ⟨rfl, fun i _ => ⟨by omega, ?_⟩⟩
    rfl
def Sp_check_number (f : List D → M D) : Prop := (∀ k : Int, 0 ≤ k → f [.int k] = pure .none) ∧ ∀ b ∈ badN, f [b] = throwX malE
theorem s_check_number {call : Str → List D → M D} {w : Nat} (h : Sp_is_whole (call "is_whole")) : Sp_check_number (S_check_number call w) := by
  refine ⟨fun k hk => ?_, fun b hb => ?_⟩ <;> unfold S_check_number <;> rw [runS_1]
  · have e := h (.int k) rfl
    simp [isWh] at e
    have : ¬ k < 0 := by omega
    simp [startN, callS, e, this]
  · simp only [badN, List.mem_cons, List.mem_nil_iff, or_false] at hb
    have e := fun d hd => h d hd
    rcases hb with rfl | rfl | rfl | rfl | rfl | rfl
    · have e := h (.int (-1)) rfl; simp [isWh] at e; simp [startN, callS, e, malE]
    · have e := h .none rfl; simp [isWh] at e; simp [startN, callS, e, malE]
    · have e := h (.bool true) rfl; simp [isWh] at e; simp [startN, callS, e, malE]
    · have e := h (.str "1") rfl; simp [isWh] at e; simp [startN, callS, e, malE]
    · have e := h (.tuple [.int 1]) rfl; simp [isWh] at e; simp [startN, callS, e, malE]
    · have e := h (.list [.int 2]) rfl; simp [isWh] at e; simp [startN, callS, e, malE]
def plG (a : List Int) : Int := a.foldl (fun g x => (Int.gcd g x : Int)) 0
theorem plG_dvd : ∀ (a : List Int) (g : Int), a.foldl (fun g x => (Int.gcd g x : Int)) g ∣ g ∧ ∀ x ∈ a, a.foldl (fun g x => (Int.gcd g x : Int)) g ∣ x
  | [], g => ⟨Int.dvd_refl _, fun x h => by cases h⟩
  | y :: a, g => by
    obtain ⟨h1, h2⟩ := plG_dvd a (Int.gcd g y : Int)
    rw [List.foldl_cons]
    refine ⟨Int.dvd_trans h1 (Int.gcd_dvd_left g y), fun x hx => ?_⟩
    rcases List.mem_cons.mp hx with rfl | hx
    · exact Int.dvd_trans h1 (Int.gcd_dvd_right g x)
    · exact h2 x hx
theorem plG_nn : ∀ (a : List Int) (g : Int), 0 ≤ g → 0 ≤ a.foldl (fun g x => (Int.gcd g x : Int)) g
  | [], g, h => h
  | y :: a, g, h => plG_nn a (Int.gcd g y : Int) (Int.natCast_nonneg _)
theorem plG_ok {a : List Int} (ha : IsDr a) : 0 < plG a ∧ plG a ≤ 1000000 := by
  obtain ⟨x, hx, h0⟩ := ha.last
  have hm := List.mem_of_getLast? hx
  have hd := (plG_dvd a 0).2 x hm
  have hn := plG_nn a 0 (by decide)
  have hw := ha.wt x hm
  have := Int.le_of_dvd h0 hd
  unfold plG
  refine ⟨?_, by omega⟩
  rcases (by omega : a.foldl (fun g x => (Int.gcd g x : Int)) 0 = 0 ∨ 0 < a.foldl (fun g x => (Int.gcd g x : Int)) 0) with h | h
  · rw [h] at hd
    have := Int.zero_dvd.mp hd
    omega
  · exact h
def Sp_plain (f : List D → M D) : Prop := (∀ a, IsDr a → f [tupD a] = pure (tupD (a.map fun x => x / plG a))) ∧ ∀ y, nod y = true → isDraw y = false → f [y] = throwX malE
theorem s_plain {call : Str → List D → M D} {w : Nat} (h1 : Sp_check_draw (call "check_draw")) (h2 : Sp_common (call "common")) : Sp_plain (S_plain call w) := by
  refine ⟨fun a ha => ?_, fun y hy hf => ?_⟩ <;> unfold S_plain <;> rw [runS_1]
  · have e1 := h1 (tupD a) (by simp)
    rw [ha.is, if_pos rfl] at e1
    have la := ha.most
    obtain ⟨v', l1⟩ := forL_foldG (enc := PyData.int) (bind := bindG (.one 2)) (b := S_plain_b0 call w) (fun g x => (Int.gcd g x : Int)) (fun g (v : Sl) => [some (tupD a, false), some (.int g, false), v]) (fun _ => True) a (fun x hx g v _ => ⟨_, rfl, ⟨some (.int x, false), by simp [S_plain_b0, callS, h2 g x]⟩, trivial⟩) 0 trivial none
    obtain ⟨p0, p1⟩ := plG_ok ha
    have hb : Bt 20 (plG a) := Bt.of_lt (by omega) (by omega)
    have cm := compS_map (items := pure (a.map .int)) (bind := fun d => bindG (.one 2) (wipe [some (tupD a, false), some (.int (plG a), false), v'] [2]) d) (g := S_plain_e1 call w) a .int (fun x => .int (x / plG a)) rfl (sl (by omega)) fun x hx => ⟨_, rfl, by simp [S_plain_e1, bdiv p0 hb]⟩
    have e0 : a.foldl (fun g x => (Int.gcd g x : Int)) 0 = plG a := rfl
    rw [e0] at l1
    simp at l1 cm
    simp [startN, callS, e1, l1, biS, cm]
    simp [tupD, Function.comp_def]
  · have e1 := h1 y hy
    rw [hf] at e1
    simp at e1
    simp [startN, callS, e1, malE]
def chV (a : List Int) (k : Int) : Int := if 1 ≤ k ∧ k ≤ a.length then ix a (k - 1) else 0
def abV (a : List Int) (k : Int) : Int := (a.drop (max (k - 1) 0).toNat).sum
def upV (a : List Int) (k : Int) : Int := (a.take k.toNat).sum
def exV (a : List Int) (k : Int) : Int := sumR a.length fun i => ix a i * max 0 ((i : Int) + 1 - k)
def laV (a : List Int) (k : Int) : Int := sumR a.length fun i => ix a i * max 0 (k - (i : Int) - 1)
def SpN (v : List Int → Int → Int) (f : List D → M D) : Prop := (∀ a k, IsDr a → 0 ≤ k → k ≤ 1000 → f [tupD a, .int k] = pure (frD (v a k) a.sum)) ∧ (∀ y d, nod y = true → isDraw y = false → f [y, d] = throwX malE) ∧ ∀ a b, IsDr a → b ∈ badN → f [tupD a, b] = throwX malE
theorem badN_isl {b : D} (h : b ∈ badN) : True := trivial
def Sp_chance (f : List D → M D) : Prop := SpN chV f
theorem s_chance {call : Str → List D → M D} {w : Nat} (h1 : Sp_check_draw (call "check_draw")) (h2 : Sp_check_number (call "check_number")) (h3 : Sp_lowest (call "lowest")) : Sp_chance (S_chance call w) := by
  refine ⟨fun a k ha k0 k1 => ?_, fun y d hy hf => ?_, fun a b ha hb => ?_⟩ <;> unfold S_chance <;> rw [runS_2]
  · have e1 := h1 (tupD a) (by simp)
    rw [ha.is, if_pos rfl] at e1
    have sp := ha.sum
    have e3 := fun n => h3 n a.sum (by omega) (ha.sumBt.mono (by decide))
    by_cases c : 1 ≤ k
    · by_cases c2 : k ≤ a.length
      · have g := getT_ix (xs := a) (i := k - 1) (by omega) (by omega)
        have hv : chV a k = ix a (k - 1) := if_pos ⟨c, c2⟩
        simp [startN, callS, e1, h2.1 k k0, ifeS, biS, c, c2, g, e3, hv]
      · have hv : chV a k = 0 := if_neg fun z => c2 z.2
        simp [startN, callS, e1, h2.1 k k0, ifeS, biS, c, c2, e3, hv]
    · have hv : chV a k = 0 := if_neg fun z => c z.1
      simp [startN, callS, e1, h2.1 k k0, ifeS, biS, c, e3, hv]
  · have e1 := h1 y hy
    rw [hf] at e1
    simp at e1
    simp [startN, callS, e1, malE]
  · have e1 := h1 (tupD a) (by simp)
    rw [ha.is, if_pos rfl] at e1
    simp [startN, callS, e1, h2.2 b hb, malE]
def Sp_above (f : List D → M D) : Prop := SpN abV f
theorem s_above {call : Str → List D → M D} {w : Nat} (h1 : Sp_check_draw (call "check_draw")) (h2 : Sp_check_number (call "check_number")) (h3 : Sp_lowest (call "lowest")) : Sp_above (S_above call w) := by
  refine ⟨fun a k ha k0 k1 => ?_, fun y d hy hf => ?_, fun a b ha hb => ?_⟩ <;> unfold S_above <;> rw [runS_2]
  · have e1 := h1 (tupD a) (by simp)
    rw [ha.is, if_pos rfl] at e1
    have sp := ha.sum
    have e3 := fun n => h3 n a.sum (by omega) (ha.sumBt.mono (by decide))
    have hc := cut_from (a.map PyData.int) (k := max (k - 1) 0) (by omega)
    have bs : bi "sum" [.tuple ((a.map PyData.int).drop (max (k - 1) 0).toNat)] = pure (.int (a.drop (max (k - 1) 0).toNat).sum) := by rw [← List.map_drop]; exact bi_sum_tup _
    have e4 := e3 (abV a k)
    unfold abV at e4
    simp [startN, callS, e1, h2.1 k k0, biS, hc, bs, e4, abV]
  · have e1 := h1 y hy
    rw [hf] at e1
    simp at e1
    simp [startN, callS, e1, malE]
  · have e1 := h1 (tupD a) (by simp)
    rw [ha.is, if_pos rfl] at e1
    simp [startN, callS, e1, h2.2 b hb, malE]
def Sp_upto (f : List D → M D) : Prop := SpN upV f
theorem s_upto {call : Str → List D → M D} {w : Nat} (h1 : Sp_check_draw (call "check_draw")) (h2 : Sp_check_number (call "check_number")) (h3 : Sp_lowest (call "lowest")) : Sp_upto (S_upto call w) := by
  refine ⟨fun a k ha k0 k1 => ?_, fun y d hy hf => ?_, fun a b ha hb => ?_⟩ <;> unfold S_upto <;> rw [runS_2]
  · have e1 := h1 (tupD a) (by simp)
    rw [ha.is, if_pos rfl] at e1
    have sp := ha.sum
    have e3 := fun n => h3 n a.sum (by omega) (ha.sumBt.mono (by decide))
    have hc := cut_to (a.map PyData.int) (k := k) k0
    have bs : bi "sum" [.tuple ((a.map PyData.int).take k.toNat)] = pure (.int (a.take k.toNat).sum) := by rw [← List.map_take]; exact bi_sum_tup _
    have e4 := e3 (upV a k)
    unfold upV at e4
    simp [startN, callS, e1, h2.1 k k0, biS, hc, bs, e4, upV]
  · have e1 := h1 y hy
    rw [hf] at e1
    simp at e1
    simp [startN, callS, e1, malE]
  · have e1 := h1 (tupD a) (by simp)
    rw [ha.is, if_pos rfl] at e1
    simp [startN, callS, e1, h2.2 b hb, malE]
theorem filt_sumR (p : Nat → Bool) (g : Nat → Int) : ∀ n, (((List.range n).filter p).map g).sum = sumR n fun i => if p i = true then g i else 0
  | 0 => rfl
  | n + 1 => by
    rw [List.range_succ, List.filter_append, List.map_append, List.sum_append, filt_sumR p g n, sumR_back]
    by_cases h : p n = true
    · rw [List.filter_cons_of_pos h, if_pos h]; simp
    · rw [List.filter_cons_of_neg h, if_neg h]; simp
def Sp_excess (f : List D → M D) : Prop := SpN exV f
theorem s_excess {call : Str → List D → M D} {w : Nat} (h1 : Sp_check_draw (call "check_draw")) (h2 : Sp_check_number (call "check_number")) (h3 : Sp_lowest (call "lowest")) : Sp_excess (S_excess call w) := by
  refine ⟨fun a k ha k0 k1 => ?_, fun y d hy hf => ?_, fun a b ha hb => ?_⟩ <;> unfold S_excess <;> rw [runS_2]
  · have e1 := h1 (tupD a) (by simp)
    rw [ha.is, if_pos rfl] at e1
    have sp := ha.sum
    have la := ha.most
    have e3 := fun n => h3 n a.sum (by omega) (ha.sumBt.mono (by decide))
    have cf := compS_filter (items := pure (enumD 1 (a.map .int))) (bind := fun d => bindG (.many [2, 3]) (wipe [some (tupD a, false), some (.int k, false), none, none] [2, 3]) d) (f := S_excess_i0 call w) (g := S_excess_e1 call w) (List.range a.length) (fun (i : Nat) => PyData.tuple [.int (1 + (i : Int)), .int (ix a i)]) (fun (i : Nat) => .int (ix a i * (1 + (i : Int) - k))) (fun i => decide (k < 1 + (i : Int))) (by rw [enum_map]) (sl (by simp; omega)) fun i hi => ⟨_, rfl, by simp [S_excess_i0], fun _ => by
      have hi := List.mem_range.mp hi
      have b1 := ha.bt (ix_mem (xs := a) (i := (i : Int)) (by omega) (by omega))
      simp [S_excess_e1, bmul b1 (Bt.of_lt (n := 20) (i := 1 + (i : Int) - k) (by omega) (by omega))]⟩
    have bs := bi_sum_map (fun (i : Nat) => ix a i * (1 + (i : Int) - k)) ((List.range a.length).filter fun (i : Nat) => decide (k < 1 + (i : Int)))
    rw [filt_sumR] at bs
    have he : (sumR a.length fun i => if decide (k < 1 + (i : Int)) = true then ix a i * (1 + (i : Int) - k) else 0) = exV a k := sumR_congr fun i hi => by
      by_cases c : k < 1 + (i : Int)
      · rw [if_pos (by simpa using c), show max 0 ((i : Int) + 1 - k) = 1 + (i : Int) - k by omega]
      · rw [if_neg (by simpa using c), show max 0 ((i : Int) + 1 - k) = 0 by omega, Int.mul_zero]
    rw [he] at bs
    have e4 := e3 (exV a k)
    simp at cf
    simp [startN, callS, e1, h2.1 k k0, iterS, biS, cf, bs, e4]
  · have e1 := h1 y hy
    rw [hf] at e1
    simp at e1
    simp [startN, callS, e1, malE]
  · have e1 := h1 (tupD a) (by simp)
    rw [ha.is, if_pos rfl] at e1
    simp [startN, callS, e1, h2.2 b hb, malE]
def Sp_lack (f : List D → M D) : Prop := SpN laV f
theorem s_lack {call : Str → List D → M D} {w : Nat} (h1 : Sp_check_draw (call "check_draw")) (h2 : Sp_check_number (call "check_number")) (h3 : Sp_lowest (call "lowest")) : Sp_lack (S_lack call w) := by
  refine ⟨fun a k ha k0 k1 => ?_, fun y d hy hf => ?_, fun a b ha hb => ?_⟩ <;> unfold S_lack <;> rw [runS_2]
  · have e1 := h1 (tupD a) (by simp)
    rw [ha.is, if_pos rfl] at e1
    have sp := ha.sum
    have la := ha.most
    have e3 := fun n => h3 n a.sum (by omega) (ha.sumBt.mono (by decide))
    have cf := compS_filter (items := pure (enumD 1 (a.map .int))) (bind := fun d => bindG (.many [2, 3]) (wipe [some (tupD a, false), some (.int k, false), none, none] [2, 3]) d) (f := S_lack_i0 call w) (g := S_lack_e1 call w) (List.range a.length) (fun (i : Nat) => PyData.tuple [.int (1 + (i : Int)), .int (ix a i)]) (fun (i : Nat) => .int (ix a i * (k - (1 + (i : Int))))) (fun i => decide (1 + (i : Int) < k)) (by rw [enum_map]) (sl (by simp; omega)) fun i hi => ⟨_, rfl, by simp [S_lack_i0], fun _ => by
      have hi := List.mem_range.mp hi
      have b1 := ha.bt (ix_mem (xs := a) (i := (i : Int)) (by omega) (by omega))
      simp [S_lack_e1, bmul b1 (Bt.of_lt (n := 20) (i := k - (1 + (i : Int))) (by omega) (by omega))]⟩
    have bs := bi_sum_map (fun (i : Nat) => ix a i * (k - (1 + (i : Int)))) ((List.range a.length).filter fun (i : Nat) => decide (1 + (i : Int) < k))
    rw [filt_sumR] at bs
    have he : (sumR a.length fun i => if decide (1 + (i : Int) < k) = true then ix a i * (k - (1 + (i : Int))) else 0) = laV a k := sumR_congr fun i hi => by
      by_cases c : 1 + (i : Int) < k
      · rw [if_pos (by simpa using c), show max 0 (k - (i : Int) - 1) = k - (1 + (i : Int)) by omega]
      · rw [if_neg (by simpa using c), show max 0 (k - (i : Int) - 1) = 0 by omega, Int.mul_zero]
    rw [he] at bs
    have e4 := e3 (laV a k)
    simp at cf
    simp [startN, callS, e1, h2.1 k k0, iterS, biS, cf, bs, e4]
  · have e1 := h1 y hy
    rw [hf] at e1
    simp at e1
    simp [startN, callS, e1, malE]
  · have e1 := h1 (tupD a) (by simp)
    rw [ha.is, if_pos rfl] at e1
    simp [startN, callS, e1, h2.2 b hb, malE]
def Sp_mean (f : List D → M D) : Prop := (∀ a, IsDr a → f [tupD a] = pure (frD (exV a 0) a.sum)) ∧ ∀ y, nod y = true → isDraw y = false → f [y] = throwX malE
theorem s_mean {call : Str → List D → M D} {w : Nat} (h : Sp_excess (call "excess")) : Sp_mean (S_mean call w) := by
  refine ⟨fun a ha => ?_, fun y hy hf => ?_⟩ <;> unfold S_mean <;> rw [runS_1]
  · simp [startN, callS, h.1 a 0 ha (by decide) (by decide)]
  · simp [startN, callS, h.2.1 y (.int 0) hy hf, sRet]
end Py

set_option Elab.async false
set_option linter.all false
set_option maxRecDepth 100000
namespace Py
open PySem
def Sp_is_ratio (f : List D → M D) : Prop := (∀ a b : Int, f [.tuple [.int a, .int b]] = pure (.bool (decide (0 < b) && decide ((Int.gcd a b : Int) = 1)))) ∧ f [.none] = pure (.bool false) ∧ f [.int 1] = pure (.bool false) ∧ f [.str "1"] = pure (.bool false)
theorem s_is_ratio {call : Str → List D → M D} {w : Nat} (h1 : Sp_is_whole (call "is_whole")) (h2 : Sp_common (call "common")) : Sp_is_ratio (S_is_ratio call w) := by
  refine ⟨fun a b => ?_, ?_, ?_, ?_⟩ <;> unfold S_is_ratio <;> rw [runS_1]
  · have e1 := h1 (.int a) rfl
    have e2 := h1 (.int b) rfl
    simp [isWh] at e1 e2
    by_cases hb : 0 < b
    · simp [startN, callS, e1, e2, biS, h2 a b, hb]
    · simp [startN, callS, e1, e2, biS, h2 a b, hb]
  · simp [startN]
  · simp [startN]
  · simp [startN]
def pwF (a : List Int) (n d : Int) : Int × Int := a.reverse.foldl (fun p x => ((p.1 + x * p.2) * n, p.2 * d)) (0, 1)
def badB8 : List D := [.none, .tuple [.int 2, .int 4], .tuple [.int (-1), .int 2], .tuple [.int 3, .int 2], .tuple [.int 1, .int 0], .int 1, .str "1"]
def Sp_power_mean (f : List D → M D) : Prop := (∀ a n d, IsDr a → 0 ≤ n → n ≤ d → 0 < d → d ≤ 9 → Int.gcd n d = 1 → f [tupD a, .tuple [.int n, .int d]] = pure (frD (pwF a n d).1 ((pwF a n d).2 * a.sum))) ∧ (∀ y d, nod y = true → isDraw y = false → f [y, d] = throwX malE) ∧ ∀ a b, IsDr a → b ∈ badB8 → f [tupD a, b] = throwX malE
theorem pw_scale (n d : Int) : ∀ (xs : List Int) (p : Int × Int), (xs.foldl (fun p x => ((p.1 + x * p.2) * n, p.2 * d)) p).2 = p.2 * d ^ xs.length
  | [], p => by simp
  | x :: xs, p => by
    rw [List.foldl_cons, pw_scale n d xs, List.length_cons, Int.pow_succ, Int.mul_assoc, Int.mul_comm d]
theorem pow_pos' {d : Int} (h : 0 < d) : ∀ k : Nat, 0 < d ^ k
  | 0 => by simp
  | k + 1 => by rw [Int.pow_succ]; exact Int.mul_pos (pow_pos' h k) h
theorem s_power_mean {call : Str → List D → M D} {w : Nat} (h1 : Sp_check_draw (call "check_draw")) (h2 : Sp_is_ratio (call "is_ratio")) (h3 : Sp_lowest (call "lowest")) : Sp_power_mean (S_power_mean call w) := by
  refine ⟨fun a n d ha n0 n1 d0 d1 hg => ?_, fun y d hy hf => ?_, fun a b ha hb => ?_⟩ <;> unfold S_power_mean <;> rw [runS_2]
  · have e1 := h1 (tupD a) (by simp)
    rw [ha.is, if_pos rfl] at e1
    have e2 := h2.1 n d
    rw [hg] at e2
    simp [d0] at e2
    have la := ha.most
    have bn : Bt 4 n := Bt.of_lt (by omega) (by omega)
    have bd : Bt 4 d := Bt.of_lt (by omega) (by omega)
    obtain ⟨v', l1⟩ := forL_foldP (enc := PyData.int) (bind := bindG (.one 6)) (b := S_power_mean_b0 call w) (fun (p : Int × Int) x => ((p.1 + x * p.2) * n, p.2 * d)) (fun p (v : Sl) => [some (tupD a, false), some (.tuple [.int n, .int d], false), some (.int n, false), some (.int d, false), some (.int p.1, false), some (.int p.2, false), v]) (fun ys p => ys.length ≤ 30 ∧ Bt (4 * (30 - ys.length) + 1) p.2 ∧ Bt (30 + 5 * (30 - ys.length)) p.1) a.reverse (fun x ys hx p v ⟨i1, i2, i3⟩ => by
      have hx := ha.bt (List.mem_reverse.mp hx)
      simp only [List.length_cons] at i1 i2 i3
      have m1 := hx.mul i2
      have a1 := i3.add (m1.mono (m := 30 + 5 * (30 - (ys.length + 1))) (by omega))
      have ag : augI .Mult p.2 d = some (p.2 * d) := by
        have l1 := i2.log
        have l2 := bd.log
        exact if_pos (by omega)
      refine ⟨_, rfl, ⟨some (.int x, false), by simp [S_power_mean_b0, bmul hx i2, bmul a1 bn, sAug, ag]⟩, by omega, (i2.mul bd).mono (by omega), (a1.mul bn).mono (by omega)⟩) (0, 1) ⟨by rw [List.length_reverse]; omega, (Bt.of_lt (n := 1) (by decide) (by decide)).mono (by omega), (Bt.of_lt (n := 1) (by decide) (by decide)).mono (by omega)⟩ none
    have hs : (pwF a n d).2 = d ^ a.length := by
      unfold pwF
      rw [pw_scale, List.length_reverse, Int.one_mul]
    have sp := ha.sum
    have sc0 : 0 < (pwF a n d).2 := by rw [hs]; exact pow_pos' d0 _
    have scb : Bt 121 (pwF a n d).2 := by
      rw [hs]
      have : ∀ k : Nat, Bt (4 * k + 1) (d ^ k) := fun k => by
        induction k with
        | zero => rw [Int.pow_zero]; exact Bt.of_lt (by decide) (by decide)
        | succ k ih => rw [Int.pow_succ]; exact (ih.mul bd).mono (by omega)
      exact (this a.length).mono (by omega)
    have hm := bmul scb ha.sumBt
    have e3 := h3 (pwF a n d).1 ((pwF a n d).2 * a.sum) (Int.ne_of_gt (Int.mul_pos sc0 sp)) ((scb.mul ha.sumBt).mono (by decide))
    have er : a.reverse.foldl (fun (p : Int × Int) x => ((p.1 + x * p.2) * n, p.2 * d)) (0, 1) = pwF a n d := rfl
    rw [er] at l1
    have c1 : ¬ n < 0 := by omega
    have c2 : ¬ d < n := by omega
    have rv : revD (tupD a) = pure (.tuple (a.reverse.map .int)) := by
      show (pure (.tuple (a.map PyData.int).reverse) : M D) = _
      rw [List.map_reverse]
    generalize (pwF a n d).1 = F at *
    generalize (pwF a n d).2 = S at *
    simp at l1 rv
    simp [startN, callS, e1, e2, c1, c2, revS, rv, l1, biS, hm, e3, tupS, sline, setAll]
  · have e1 := h1 y hy
    rw [hf] at e1
    simp at e1
    simp [startN, callS, e1, malE]
  · have e1 := h1 (tupD a) (by simp)
    rw [ha.is, if_pos rfl] at e1
    simp only [badB8, List.mem_cons, List.mem_nil_iff, or_false] at hb
    rcases hb with rfl | rfl | rfl | rfl | rfl | rfl | rfl
    · simp [startN, callS, e1, h2.2.1, malE]
    · simp [startN, callS, e1, h2.1, malE, show Int.gcd 2 4 = 2 by decide]
    · simp [startN, callS, e1, h2.1, malE, show Int.gcd (-1) 2 = 1 by decide]
    · simp [startN, callS, e1, h2.1, malE, show Int.gcd 3 2 = 1 by decide]
    · simp [startN, callS, e1, h2.1, malE]
    · simp [startN, callS, e1, h2.2.2.1, malE]
    · simp [startN, callS, e1, h2.2.2.2, malE]
def m1V (a : List Int) : Int := sumR a.length fun i => ix a i * (1 + (i : Int))
def m2V (a : List Int) : Int := sumR a.length fun i => ix a i * (1 + (i : Int)) * (1 + (i : Int))
theorem ixB20 {a : List Int} (ha : IsDr a) {i : Nat} (h : i < a.length) : Bt 20 (ix a i) := ha.bt (ix_mem (by omega) (by omega))
theorem m1_bt {a : List Int} (ha : IsDr a) : Bt 30 (m1V a) := by
  have la := ha.most
  refine Bt.sum (n := 25) (m := 5) (by simp; omega) fun x hx => ?_
  obtain ⟨i, hi, rfl⟩ := List.mem_map.mp hx
  have hi := List.mem_range.mp hi
  exact (ixB20 ha hi).mul (Bt.of_lt (n := 5) (by omega) (by omega))
theorem m2_bt {a : List Int} (ha : IsDr a) : Bt 35 (m2V a) := by
  have la := ha.most
  refine Bt.sum (n := 30) (m := 5) (by simp; omega) fun x hx => ?_
  obtain ⟨i, hi, rfl⟩ := List.mem_map.mp hx
  have hi := List.mem_range.mp hi
  exact ((ixB20 ha hi).mul (Bt.of_lt (n := 5) (by omega) (by omega))).mul (Bt.of_lt (n := 5) (by omega) (by omega))
def Sp_variance (f : List D → M D) : Prop := (∀ a, IsDr a → f [tupD a] = pure (frD (m2V a * a.sum - m1V a * m1V a) (a.sum * a.sum))) ∧ ∀ y, nod y = true → isDraw y = false → f [y] = throwX malE
theorem s_variance {call : Str → List D → M D} {w : Nat} (h1 : Sp_check_draw (call "check_draw")) (h3 : Sp_lowest (call "lowest")) : Sp_variance (S_variance call w) := by
  refine ⟨fun a ha => ?_, fun y hy hf => ?_⟩ <;> unfold S_variance <;> rw [runS_1]
  · have e1 := h1 (tupD a) (by simp)
    rw [ha.is, if_pos rfl] at e1
    have sp := ha.sum
    have la := ha.most
    have sB := ha.sumBt
    have e3 := h3 (m2V a * a.sum - m1V a * m1V a) (a.sum * a.sum) (Int.ne_of_gt (Int.mul_pos sp sp)) ((sB.mul sB).mono (by decide))
    have c0 := compS_map (items := pure (enumD 1 (a.map .int))) (bind := fun d => bindG (.many [4, 5]) (wipe [some (tupD a, false), some (.int a.sum, false), none, none, none, none] [4, 5]) d) (g := S_variance_e0 call w) (List.range a.length) (fun (i : Nat) => PyData.tuple [.int (1 + (i : Int)), .int (ix a i)]) (fun (i : Nat) => .int (ix a i * (1 + (i : Int)))) (by rw [enum_map]) (sl (by simp; omega)) fun i hi => ⟨_, rfl, by
      have hi := List.mem_range.mp hi
      simp [S_variance_e0, bmul (ixB20 ha hi) (Bt.of_lt (n := 20) (i := 1 + (i : Int)) (by omega) (by omega))]⟩
    have c1 := compS_map (items := pure (enumD 1 (a.map .int))) (bind := fun d => bindG (.many [4, 5]) (wipe [some (tupD a, false), some (.int a.sum, false), some (.int (m1V a), false), none, none, none] [4, 5]) d) (g := S_variance_e1 call w) (List.range a.length) (fun (i : Nat) => PyData.tuple [.int (1 + (i : Int)), .int (ix a i)]) (fun (i : Nat) => .int (ix a i * (1 + (i : Int)) * (1 + (i : Int)))) (by rw [enum_map]) (sl (by simp; omega)) fun i hi => ⟨_, rfl, by
      have hi := List.mem_range.mp hi
      have b2 := Bt.of_lt (n := 20) (i := 1 + (i : Int)) (by omega) (by omega)
      simp [S_variance_e1, bmul (ixB20 ha hi) b2, bmul ((ixB20 ha hi).mul b2) b2]⟩
    have s0 := bi_sum_map (fun (i : Nat) => ix a i * (1 + (i : Int))) (List.range a.length)
    have s1 := bi_sum_map (fun (i : Nat) => ix a i * (1 + (i : Int)) * (1 + (i : Int))) (List.range a.length)
    rw [show ((List.range a.length).map fun (i : Nat) => ix a i * (1 + (i : Int))).sum = m1V a from rfl] at s0
    rw [show ((List.range a.length).map fun (i : Nat) => ix a i * (1 + (i : Int)) * (1 + (i : Int))).sum = m2V a from rfl] at s1
    have p1 := bmul (m2_bt ha) sB
    have p2 := bmul (m1_bt ha) (m1_bt ha)
    have p3 := bmul sB sB
    generalize m1V a = M1 at *
    generalize m2V a = M2 at *
    simp at c0 c1
    simp [startN, callS, e1, iterS, biS, c0, c1, s0, s1, p1, p2, p3, e3]
  · have e1 := h1 y hy
    rw [hf] at e1
    simp at e1
    simp [startN, callS, e1, malE]
def poL (a : List Int) : List Nat := (List.range a.length).filter fun k => decide (0 < ix a k)
theorem poL_ne {a : List Int} (ha : IsDr a) : poL a ≠ [] := fun h => by
  obtain ⟨x, hx, h0⟩ := ha.last
  have hl := ha.one
  have hm : a.length - 1 ∈ poL a := by
    unfold poL
    rw [List.mem_filter]
    refine ⟨List.mem_range.mpr (by omega), ?_⟩
    have : ix a ((a.length - 1 : Nat) : Int) = x := by
      unfold ix
      rw [List.getD_eq_getElem?_getD, Int.toNat_natCast, ← List.getLast?_eq_getElem?, hx]
      rfl
    rw [this]
    simpa using h0
  rw [h] at hm
  cases hm
def Sp_least_number (f : List D → M D) : Prop := (∀ a, IsDr a → f [tupD a] = pure (.int (1 + ((poL a).headD 0 : Int)))) ∧ ∀ y, nod y = true → isDraw y = false → f [y] = throwX malE
theorem s_least_number {call : Str → List D → M D} {w : Nat} (h1 : Sp_check_draw (call "check_draw")) : Sp_least_number (S_least_number call w) := by
  refine ⟨fun a ha => ?_, fun y hy hf => ?_⟩ <;> unfold S_least_number <;> rw [runS_1]
  · have e1 := h1 (tupD a) (by simp)
    rw [ha.is, if_pos rfl] at e1
    have la := ha.most
    have cf := compS_filter (items := pure (enumD 1 (a.map .int))) (bind := fun d => bindG (.many [1, 2]) (wipe [some (tupD a, false), none, none] [1, 2]) d) (f := S_least_number_i0 call w) (g := S_least_number_e1 call w) (List.range a.length) (fun (i : Nat) => PyData.tuple [.int (1 + (i : Int)), .int (ix a i)]) (fun (i : Nat) => .int (1 + (i : Int))) (fun k => decide (0 < ix a k)) (by rw [enum_map]) (sl (by simp; omega)) fun i hi => ⟨_, rfl, by simp [S_least_number_i0], fun _ => by simp [S_least_number_e1]⟩
    rw [show ((List.range a.length).filter fun (k : Nat) => decide (0 < ix a k)) = poL a from rfl] at cf
    have hne := poL_ne ha
    have g0 : getD' (.list ((poL a).map fun (i : Nat) => PyData.int (1 + (i : Int)))) (.int 0) = pure (.int (1 + ((poL a).headD 0 : Int))) := by
      cases h : poL a with
      | nil => exact absurd h hne
      | cons x xs => simp
    simp at cf
    simp [startN, callS, e1, iterS, cf]
    rw [g0]
    simp
  · have e1 := h1 y hy
    rw [hf] at e1
    simp at e1
    simp [startN, callS, e1, malE]
def midF (s : Int) : List Int → Nat → Int → Option Nat
  | [], _, _ => none
  | z :: zs, i, t => if s ≤ 2 * (t + z) then some i else midF s zs (i + 1) (t + z)
theorem midF_some {s : Int} : ∀ (zs : List Int) (i : Nat) (t : Int), zs ≠ [] → s ≤ 2 * (t + zs.sum) → (∀ z ∈ zs, 0 ≤ z) → ∃ k, midF s zs i t = some (i + k) ∧ k < zs.length ∧ s ≤ 2 * (t + (zs.take (k + 1)).sum) ∧ ∀ j, j < k → 2 * (t + (zs.take (j + 1)).sum) < s
  | [], i, t, h, _, _ => absurd rfl h
  | z :: zs, i, t, _, h, hz => by
    unfold midF
    by_cases c : s ≤ 2 * (t + z)
    · exact ⟨0, if_pos c, by simp, by simpa using c, fun j hj => absurd hj (by omega)⟩
    · have hne : zs ≠ [] := fun e => by subst e; simp at h; omega
      rw [List.sum_cons] at h
      obtain ⟨k, e, h1, h2, h3⟩ := midF_some (s := s) zs (i + 1) (t + z) hne (by omega) (fun z hz' => hz z (by simp [hz']))
      refine ⟨k + 1, by rw [if_neg c, e]; congr 1; omega, by simp; omega, ?_, fun j hj => ?_⟩
      · rw [List.take_succ_cons, List.sum_cons]; omega
      · cases j with
        | zero => simp; omega
        | succ j =>
          rw [List.take_succ_cons, List.sum_cons]
          have := h3 j (by omega)
          omega
def meL (a : List Int) : List Nat := (List.range a.length).filter fun k => decide (a.sum ≤ 2 * (a.take (k + 1)).sum)
theorem head_filter (p : Nat → Bool) {n k : Nat} (hk : k < n) (h : p k = true) (hj : ∀ j, j < k → p j = false) : ((List.range n).filter p).headD 0 = k ∧ (List.range n).filter p ≠ [] := by
  have e : List.range n = List.range k ++ (k :: (List.range (n - k - 1)).map fun i => k + 1 + i) := by
    apply List.ext_getElem
    · simp; omega
    · intro i h1 h2
      simp only [List.getElem_range]
      rcases Nat.lt_trichotomy i k with c | c | c
      · rw [List.getElem_append_left (by simpa using c)]; simp
      · subst c; rw [List.getElem_append_right (by simp)]; simp
      · rw [List.getElem_append_right (by simp; omega)]
        simp only [List.length_range]
        obtain ⟨m, hm⟩ : ∃ m, i - k = m + 1 := ⟨i - k - 1, by omega⟩
        simp only [hm, List.getElem_cons_succ, List.getElem_map, List.getElem_range]
        omega
  have f0 : (List.range k).filter p = [] := List.filter_eq_nil_iff.mpr fun j hj' => by
    rw [hj j (List.mem_range.mp hj')]; simp
  rw [e, List.filter_append, f0, List.nil_append, List.filter_cons_of_pos h]
  exact ⟨rfl, by simp⟩
theorem me_mid {a : List Int} (ha : IsDr a) : midF a.sum a 0 0 = some ((meL a).headD 0) ∧ meL a ≠ [] := by
  have hne : a ≠ [] := fun e => by have := ha.one; rw [e] at this; simp at this
  have sp := ha.sum
  obtain ⟨k, e, h1, h2, h3⟩ := midF_some (s := a.sum) a 0 0 hne (by omega) fun z hz => (ha.wt z hz).1
  obtain ⟨q1, q2⟩ := head_filter (fun k => decide (a.sum ≤ 2 * (a.take (k + 1)).sum)) h1 (by simpa using h2) fun j hj => by
    have := h3 j hj
    simp
    omega
  unfold meL
  exact ⟨by rw [e, q1]; simp, q2⟩
def Sp_middle_number (f : List D → M D) : Prop := (∀ a, IsDr a → f [tupD a] = pure (.int (1 + ((meL a).headD 0 : Int)))) ∧ ∀ y, nod y = true → isDraw y = false → f [y] = throwX malE
theorem forL_stop {bind : St → D → Option St} {b : St → M Flow} {d v : D} {o : Bool} {ds : List D} {σ σ1 : St} (h : bind σ d = some σ1) (h2 : b σ1 = pure (.ret v o)) : forL bind b (d :: ds) σ = pure (.ret v o) := by
  unfold forL
  rw [h]
  show (b σ1 >>= _) = _
  rw [h2, pure_bd]
theorem mid_loop {call : Str → List D → M D} {w : Nat} {a : List Int} : ∀ (zs : List Int) (i : Nat) (t : Int) (v2 v3 : Sl) (k : Nat), (∀ z ∈ zs, 0 ≤ z) → 0 ≤ t → t + zs.sum ≤ 1000000000 → midF a.sum zs i t = some k →
    forL (bindG (.many [2, 3])) (S_middle_number_b0 call w) (enumD (1 + (i : Int)) (zs.map .int)) [some (tupD a, false), some (.int t, false), v2, v3] = pure (.ret (.int (1 + (k : Int))) false)
  | [], i, t, v2, v3, k, _, _, _, h => by cases h
  | z :: zs, i, t, v2, v3, k, hz, t0, ts, h => by
    unfold midF at h
    rw [List.sum_cons] at ts
    have z0 := hz z (by simp)
    have zs0 : 0 ≤ zs.sum := sum_nn fun y hy => hz y (by simp [hy])
    have ag := sAug_int (σ := [some (tupD a, false), some (.int t, false), some (.int (1 + (i : Int)), false), some (.int z, false)]) (i := 1) (op := .Add) (a := t) (b := z) (o := false) rfl (augI_add ..)
    have b2 : binop .Mult (.int 2) (.int (t + z)) = pure (.int (2 * (t + z))) := bmul (n := 2) (m := 40) (Bt.of_lt (by decide) (by decide)) (Bt.of_lt (by omega) (by omega))
    rw [List.map_cons, enumD]
    by_cases c : a.sum ≤ 2 * (t + z)
    · rw [if_pos c] at h
      cases h
      refine forL_stop (σ1 := [some (tupD a, false), some (.int t, false), some (.int (1 + (i : Int)), false), some (.int z, false)]) rfl ?_
      simp at ag
      simp [S_middle_number_b0, ag, b2, biS, c, sRetN, ownI, ownDI, rdV]
    · rw [if_neg c] at h
      have ih := mid_loop (call := call) (w := w) zs (i + 1) (t + z) (some (.int (1 + (i : Int)), false)) (some (.int z, false)) k (fun y hy => hz y (by simp [hy])) (by omega) (by omega) h
      rw [show (1 : Int) + ((i + 1 : Nat) : Int) = 1 + (i : Int) + 1 by omega] at ih
      rw [forL_cons (σ1 := [some (tupD a, false), some (.int t, false), some (.int (1 + (i : Int)), false), some (.int z, false)]) (σ2 := [some (tupD a, false), some (.int (t + z), false), some (.int (1 + (i : Int)), false), some (.int z, false)]) rfl (by
        simp at ag
        simp [S_middle_number_b0, ag, b2, biS, c])]
      exact ih
theorem s_middle_number {call : Str → List D → M D} {w : Nat} (h1 : Sp_check_draw (call "check_draw")) : Sp_middle_number (S_middle_number call w) := by
  refine ⟨fun a ha => ?_, fun y hy hf => ?_⟩ <;> unfold S_middle_number <;> rw [runS_1]
  · have e1 := h1 (tupD a) (by simp)
    rw [ha.is, if_pos rfl] at e1
    obtain ⟨m1, m2⟩ := me_mid ha
    have sb := ha.sumBt
    have : (2 : Int) ^ 25 ≤ 1000000000 := by decide
    have sb2 : a.sum ≤ 1000000000 := by
      unfold Bt at sb
      have : (2 : Nat) ^ 25 = 33554432 := by decide
      omega
    have l := mid_loop (call := call) (w := w) a 0 0 none none _ (fun z hz => (ha.wt z hz).1) (by decide) (by omega) m1
    simp at l
    simp [startN, callS, e1, iterS, l]
  · have e1 := h1 y hy
    rw [hf] at e1
    simp at e1
    simp [startN, callS, e1, malE]
def Sp_both (f : List D → M D) : Prop := (∀ a b, IsDr a → IsDr b → f [tupD a, tupD b] = pure (.tuple [tupD (xr a b), tupD (yr a b)])) ∧ (∀ y d, nod y = true → isDraw y = false → f [y, d] = throwX malE) ∧ ∀ a y, IsDr a → nod y = true → isDraw y = false → f [tupD a, y] = throwX malE
theorem s_both {call : Str → List D → M D} {w : Nat} (h1 : Sp_check_draw (call "check_draw")) (h2 : Sp_common_rows (call "common_rows")) : Sp_both (S_both call w) := by
  have ck : ∀ a, IsDr a → call "check_draw" [tupD a] = pure .none := fun a ha => by
    have e1 := h1 (tupD a) (by simp)
    rw [ha.is, if_pos rfl] at e1
    exact e1
  refine ⟨fun a b ha hb => ?_, fun y d hy hf => ?_, fun a y ha hy hf => ?_⟩ <;> unfold S_both <;> rw [runS_2]
  · have e2 := h2 a b ha hb
    unfold padsD at e2
    have e2 : call "common_rows" [tupD a, tupD b] = pure (.tuple [lisD (xr a b), lisD (yr a b)]) := e2
    simp [startN, callS, ck a ha, ck b hb, e2, setAll, biS, tupS, sline]
  · have e1 := h1 y hy
    rw [hf] at e1
    simp at e1
    simp [startN, callS, e1, malE]
  · have e1 := h1 y hy
    rw [hf] at e1
    simp at e1
    simp [startN, callS, ck a ha, e1, malE]
theorem fr_scale {c a b : Int} (hc : 0 < c) (hb : 0 < b) : frD (c * a) (c * b) = frD a b := by
  have hg : (Int.gcd (c * a) (c * b) : Int) = c * (Int.gcd a b : Int) := by
    rw [Int.gcd_mul_left]
    have : (c.natAbs : Int) = c := by omega
    rw [Int.natCast_mul, this]
  have cb := Int.mul_pos hc hb
  have e1 : (((c * b).natAbs : Nat) : Int) = c * b := by omega
  have e2 : ((b.natAbs : Nat) : Int) = b := by omega
  unfold frD frN frM
  rw [hg, Int.sign_eq_one_of_pos cb, Int.sign_eq_one_of_pos hb, e1, e2, Int.one_mul, Int.one_mul, Int.mul_ediv_mul_of_pos _ _ hc, Int.mul_ediv_mul_of_pos _ _ hc]
theorem fr_mulB {n d : Int} (h : 0 < d) : frN n d * (Int.gcd n d : Nat) = n ∧ frM n d * (Int.gcd n d : Nat) = d ∧ 0 < frM n d := by
  have hg := gcd_pos (n := n) (d := d) (by omega)
  unfold frN frM
  rw [Int.sign_eq_one_of_pos h]
  have hd : ((d.natAbs : Nat) : Int) = d := by omega
  rw [hd, Int.one_mul]
  have h1 := Int.ediv_mul_cancel (Int.gcd_dvd_left n d)
  have h2 := Int.ediv_mul_cancel (Int.gcd_dvd_right n d)
  exact ⟨h1, h2, Int.ediv_pos_of_pos_of_dvd h (by omega) (Int.gcd_dvd_right n d)⟩
theorem fr_eqB {a b c d : Int} (hb : 0 < b) (hd : 0 < d) : (frN a b = frN c d ∧ frM a b = frM c d) ↔ a * d = c * b := by
  constructor
  · intro ⟨h1, h2⟩
    obtain ⟨p1, p2, _⟩ := fr_mulB (n := a) hb
    obtain ⟨q1, q2, _⟩ := fr_mulB (n := c) hd
    rw [h1] at p1
    rw [h2] at p2
    generalize frN c d = N at *
    generalize frM c d = M at *
    generalize (Int.gcd a b : Int) = g at *
    generalize (Int.gcd c d : Int) = k at *
    rw [← p1, ← p2, ← q1, ← q2]
    grind
  · intro h
    have e1 : frD (d * a) (d * b) = frD a b := fr_scale hd hb
    have e2 : frD (b * c) (b * d) = frD c d := fr_scale hb hd
    rw [show d * a = b * c by rw [Int.mul_comm d, h, Int.mul_comm], Int.mul_comm d b] at e1
    rw [e1] at e2
    unfold frD at e2
    injection e2 with e2
    injection e2 with e3 e4
    injection e3 with e3
    injection e4 with e4 _
    injection e4 with e4
    exact ⟨e3, e4⟩
theorem eqD_fr {a b c d : Int} (hb : 0 < b) (hd : 0 < d) : eqD (frD a b) (frD c d) = pure (decide (a * d = c * b)) := by
  have := eqD_tup [frN a b, frM a b] [frN c d, frM c d]
  have e1 : tupD [frN a b, frM a b] = frD a b := rfl
  have e2 : tupD [frN c d, frM c d] = frD c d := rfl
  rw [e1, e2] at this
  rw [this]
  congr 1
  have := fr_eqB (a := a) (c := c) hb hd
  by_cases h : a * d = c * b
  · obtain ⟨h1, h2⟩ := this.mpr h
    rw [h1, h2]; simp [h]
  · rw [decide_eq_false h, decide_eq_false]
    intro z
    injection z with z1 z2
    injection z2 with z2 _
    exact h (this.mp ⟨z1, z2⟩)
def Sp_has_mean (f : List D → M D) : Prop := (∀ a b, IsDr a → IsDr b → f [tupD a, tupD b] = pure (.bool (decide (exV a 0 * b.sum = exV b 0 * a.sum)))) ∧ (∀ y d, nod y = true → isDraw y = false → f [y, d] = throwX malE) ∧ ∀ a y, IsDr a → nod y = true → isDraw y = false → f [tupD a, y] = throwX malE
theorem s_has_mean {call : Str → List D → M D} {w : Nat} (h1 : Sp_check_draw (call "check_draw")) (h2 : Sp_mean (call "mean")) : Sp_has_mean (S_has_mean call w) := by
  have ck : ∀ a, IsDr a → call "check_draw" [tupD a] = pure .none := fun a ha => by
    have e1 := h1 (tupD a) (by simp)
    rw [ha.is, if_pos rfl] at e1
    exact e1
  refine ⟨fun a b ha hb => ?_, fun y d hy hf => ?_, fun a y ha hy hf => ?_⟩ <;> unfold S_has_mean <;> rw [runS_2]
  · have q := eqD_fr (a := exV a 0) (c := exV b 0) ha.sum hb.sum
    simp [startN, callS, ck a ha, ck b hb, h2.1 a ha, h2.1 b hb, q]
  · have e1 := h1 y hy
    rw [hf] at e1
    simp at e1
    simp [startN, callS, e1, malE]
  · have e1 := h1 y hy
    rw [hf] at e1
    simp at e1
    simp [startN, callS, ck a ha, e1, malE]
def stopD (ys : List D) : Prop := ys = [] ∨ ∃ zs z, ys = zs ++ [z] ∧ noD z = true ∧ (isWh z = false ∨ ∃ i : Int, z = .int i ∧ i ≠ 0)
def Sp_draw_of (f : List D → M D) : Prop := (∀ (ys : List D) (m : Nat), stopD ys → nods ys = true → f [.list (ys ++ List.replicate m (.int 0))] = (if isDraw (.tuple ys) = true then pure (.tuple ys) else throwX malE) ∧ f [.tuple (ys ++ List.replicate m (.int 0))] = (if isDraw (.tuple ys) = true then pure (.tuple ys) else throwX malE)) ∧ f [.none] = throwX malE ∧ f [.str "1"] = throwX malE
theorem do_loop {call : Str → List D → M D} {w : Nat} (h1 : Sp_is_whole (call "is_whole")) (d : D) {ys : List D} (hs : stopD ys) : ∀ (m n : Nat), m < n → sWhile (S_draw_of_c0 call w) (S_draw_of_b1 call w) n [some (d, false), some (.list (ys ++ List.replicate m (.int 0)), true)] = pure (.nx [some (d, false), some (.list ys, true)])
  | 0, 0, h => absurd h (by omega)
  | 0, n + 1, _ => by
    have hc : tstS (S_draw_of_c0 call w [some (d, false), some (.list ys, true)]) = pure false := by
      rcases hs with rfl | ⟨zs, z, rfl, hn, hz⟩
      · simp [S_draw_of_c0, biS]
      · have e := h1 z hn
        have hl : (0 : Int) < (zs.length : Int) + 1 := by omega
        rcases hz with hz | ⟨i, rfl, hi⟩
        · rw [hz] at e
          simp [S_draw_of_c0, biS, callS, hl, e]
        · simp [isWh] at e
          simp [S_draw_of_c0, biS, callS, hl, e, hi]
    unfold sWhile whileL
    rw [List.replicate_zero, List.append_nil, hc]
    simp
  | m + 1, 0, h => absurd h (by omega)
  | m + 1, n + 1, h => by
    have e := h1 (.int 0) rfl
    simp [isWh] at e
    have hc : tstS (S_draw_of_c0 call w [some (d, false), some (.list ((ys ++ List.replicate m (.int 0)) ++ [.int 0]), true)]) = pure true := by
      have hl : (0 : Int) < ((ys ++ List.replicate m (PyData.int 0)).length : Int) + 1 := by omega
      simp at hl
      simp [S_draw_of_c0, biS, callS, hl, e, -List.append_assoc]
    have hb : S_draw_of_b1 call w [some (d, false), some (.list ((ys ++ List.replicate m (.int 0)) ++ [.int 0]), true)] = pure (.nx [some (d, false), some (.list (ys ++ List.replicate m (.int 0)), true)]) := by
      simp [S_draw_of_b1, sPop0, ownI, -List.append_assoc]
    rw [List.replicate_succ', ← List.append_assoc]
    unfold sWhile whileL
    rw [hc]
    simp only [stE_pure, if_true]
    rw [hb, pure_bd]
    have ih := do_loop h1 (w := w) d hs m n (by omega)
    unfold sWhile at ih
    exact ih
@[simp] theorem isi2_l (ds : List D) : isiS2 (pure (.list ds)) "list" "tuple" = pure (.bool true) := by funext s; kernel_rfl
@[simp] theorem isi2_t (ds : List D) : isiS2 (pure (.tuple ds)) "list" "tuple" = pure (.bool true) := by funext s; kernel_rfl
@[simp] theorem isi2_n : isiS2 (pure .none) "list" "tuple" = pure (.bool false) := by funext s; kernel_rfl
@[simp] theorem isi2_s : isiS2 (pure (.str "1")) "list" "tuple" = pure (.bool false) := by funext s; kernel_rfl
theorem s_draw_of {call : Str → List D → M D} {w : Nat} (hw : 200 ≤ w) (h1 : Sp_is_whole (call "is_whole")) (h2 : Sp_check_draw (call "check_draw")) : Sp_draw_of (S_draw_of call w) := by
  have key : ∀ (d : D) (ys : List D) (m : Nat), stopD ys → nods ys = true → (d = .list (ys ++ List.replicate m (.int 0)) ∨ d = .tuple (ys ++ List.replicate m (.int 0))) → S_draw_of call w [d] = if isDraw (.tuple ys) = true then pure (.tuple ys) else throwX malE := by
    intro d ys m hs hn hd
    have hm : m < w + msr [some (d, false), some (.list (ys ++ List.replicate m (.int 0)), true)] := by
      rcases hd with rfl | rfl <;> simp [msr] <;> omega
    have l := do_loop h1 (w := w) d hs m _ hm
    have e := h2 (.tuple ys) (by simpa using hn)
    unfold S_draw_of
    rw [runS_1]
    cases hc : isDraw (.tuple ys) <;> rw [hc] at e <;> simp at e <;> rcases hd with rfl | rfl <;> simp [startN, biS, l, callS, e, malE]
  refine ⟨fun ys m hs hn => ⟨key _ ys m hs hn (.inl rfl), key _ ys m hs hn (.inr rfl)⟩, ?_, ?_⟩ <;> unfold S_draw_of <;> rw [runS_1]
  · simp [startN, malE]
  · simp [startN, malE]
end Py

set_option Elab.async false
set_option linter.all false
set_option maxRecDepth 100000
namespace Py
open PySem
def Sp__law_gcd (f : List D → M D) : Prop := ∀ a b : Int, 0 ≤ a → 0 ≤ b → f [.int a, .int b] = pure (.int (Int.gcd a b))
theorem s__law_gcd {call : Str → List D → M D} {w : Nat} (hw : 1 ≤ w) : Sp__law_gcd (S__law_gcd call w) := by
  intro a b ha hb
  obtain ⟨x, rfl⟩ := Int.eq_ofNat_of_zero_le ha
  obtain ⟨y, rfl⟩ := Int.eq_ofNat_of_zero_le hb
  unfold S__law_gcd
  rw [runS_2]
  have hl := gcd_loopN (c := S__law_gcd_c0 call w) (b := S__law_gcd_b1 call w) (fun x y => [some (x, false), some (y, false)]) (fun i j => by
    by_cases hj : j = 0
    · subst hj; simp [S__law_gcd_c0]
    · have : 0 < j := by omega
      simp [S__law_gcd_c0, this, hj]) (fun i j h => by
      have : (0 : Int) < (j : Int) := by omega
      simp [S__law_gcd_b1, binop_mod this, biS]) (w + msr [some (.int (x : Int), false), some (.int (y : Int), false)]) x y (by simp [msr]; omega)
  simp [startN, hl, sRetN, ownI, ownDI, rdV]
  try rfl
def Sp__law_low (f : List D → M D) : Prop := ∀ n d : Int, 0 < d → Bt 8000 d → f [.int n, .int d] = pure (frD n d)
theorem s__law_low {call : Str → List D → M D} {w : Nat} (h : Sp__law_gcd (call "_law_gcd")) : Sp__law_low (S__law_low call w) := by
  intro n d h0 hb
  have hg := gcd_pos (n := n) (d := d) (by omega)
  have hgb := gcd_bt (n := n) (d := d) (by omega) hb
  have e := h (n.natAbs : Int) d (by omega) (by omega)
  have eg : (Int.gcd (n.natAbs : Int) d : Int) = (Int.gcd n d : Int) := by simp [Int.gcd]
  rw [eg] at e
  have hd : ((d.natAbs : Nat) : Int) = d := by omega
  unfold S__law_low
  rw [runS_2]
  simp [startN, biS, absN, callS, e, tupS, bdiv hg hgb, sline, frD, frN, frM, Int.sign_eq_one_of_pos h0, hd]
def Sp__law_is_draw (f : List D → M D) : Prop := ∀ d, nod d = true → f [d] = pure (.bool (isDraw d))
theorem s__law_is_draw {call : Str → List D → M D} {w : Nat} : Sp__law_is_draw (S__law_is_draw call w) := by
  intro d hd
  unfold S__law_is_draw
  rw [runS_1]
  have hi := isiS_tuple (nod_noD hd)
  cases d with
  | tuple ds =>
    simp only [startN, List.map_cons, List.map_nil, List.cons_append, List.nil_append, rd_zero, hi]
    by_cases hl : 1 ≤ ds.length ∧ ds.length ≤ 30
    · have h1 : (1 : Int) ≤ (ds.length : Int) := by omega
      have h2 : (ds.length : Int) ≤ 30 := by omega
      simp [biS, h1, h2]
      rw [compS_map ds id (fun d => .bool (okW d)) (by simp) (by unfold sline; omega) fun d hd' => ⟨_, rfl, by
        have hn := nods_mem (by simpa using hd) hd'
        cases d <;> first | (cases hn; done) | simp [S__law_is_draw_e0, okW, ite_pure, ite_dbool]⟩]
      by_cases ha : ds.all okW = true
      · obtain ⟨e, he⟩ : ∃ e, ds.getLast? = some e := by
          cases h : ds.getLast? with
          | some e => exact ⟨e, rfl⟩
          | none => rw [List.getLast?_eq_none_iff] at h; subst h; simp at hl
        have hw := List.all_eq_true.mp ha e (List.mem_of_getLast? he)
        cases e with
        | int i => simp [ha, getT_last he, isDraw, hl, lastPos, he]
        | _ => simp [okW] at hw
      · simp [ha, isDraw, hl]
    · have hf : (decide (1 ≤ ds.length) && decide (ds.length ≤ 30)) = false := by simp; omega
      simp only [isDraw, hf, Bool.false_and]
      by_cases h1 : (1 : Int) ≤ (ds.length : Int)
      · simp [biS, h1, (by omega : (30 : Int) < (ds.length : Int))]
      · simp [biS, h1]
  | _ => simp [startN, hi, isDraw, isTD]
theorem nods_of {ds : List D} (h : ∀ d ∈ ds, nod d = true) : nods ds = true := by
  induction ds with
  | nil => rfl
  | cons d ds ih => simp [h d (by simp), ih fun x hx => h x (by simp [hx])]
def Sp__law_bent0 (f : List D → M D) : Prop := ∀ (i : Int) (s : DS), OkS s → (f [tok, .int i] s).sat fun d s' => nod d = true ∧ OkS s'
theorem s__law_bent0 {call : Str → List D → M D} {w : Nat} (ht : call "_law_take" = takeP) : Sp__law_bent0 (S__law_bent call w) := by
  intro i s hs
  unfold S__law_bent
  rw [runS_2]
  have t0 := tv_lo (n := 10) (s := s) (by decide)
  have t1 := tv_hi (n := 10) (s := s) (by decide)
  have hs1 := OkS_ts (n := 10) hs
  have hq : eqD (.int i) (.int 1) = pure (decide (i = 1)) := eqD_int i 1
  have g := getL_sel (ds := [.int 0, .int 1, .int (-1), .int 1000000, .int 1000001, .bool (decide (i = 1)), .str "1", .none, .tuple [.int i], .int (i + 1)]) t0 (by simpa using t1)
  have hm := sel_all (P := fun d => nod d = true) (ds := [.int 0, .int 1, .int (-1), .int 1000000, .int 1000001, .bool (decide (i = 1)), .str "1", .none, .tuple [.int i], .int (i + 1)]) t0 (by simpa using t1) (by simp [nod])
  generalize sel [.int 0, .int 1, .int (-1), .int 1000000, .int 1000001, .bool (decide (i = 1)), .str "1", .none, .tuple [.int i], .int (i + 1)] (tv 10 s) = d at *
  simp [startN, bd_at, stE_at, thenF_at, quiet_at, ifeS, tstS, cmp1, cmp2, binS, ixS, slS, optS, biS, callS, lstS, tupS, iterS, evsS_cons, asBool, asInt, sFor, sAsg, sIf, sRet, sExp, sTup, negS, notS, andS, orS, callF_eq, lstS, tupS, sline, take_T ht hs, g]
  exact ⟨hm, hs1⟩
def Sp__law_bent (f : List D → M D) : Prop := ∀ (a : List Int) (s : DS), OkS s → 1 ≤ a.length → a.length ≤ 30 → (f [tok, tupD a] s).sat fun d s' => nod d = true ∧ OkS s'
theorem s__law_bent {call : Str → List D → M D} {w : Nat} (ht : call "_law_take" = takeP) (h : Sp__law_bent0 (call "_law_bent")) : Sp__law_bent (S__law_bent call w) := by
  intro a s hs l1 l2
  unfold S__law_bent
  rw [runS_2]
  have t0 := tv_lo (n := 3) (s := s) (by decide)
  have t1 := tv_hi (n := 3) (s := s) (by decide)
  have hs1 := OkS_ts (n := 3) hs
  have hl : (0 : Int) < (a.length : Int) := by omega
  have hl2 : 0 < a.length := by omega
  by_cases c : 0 < tv 3 s
  · have u0 := tv_lo (n := (a.length : Int)) (s := ts 3 s) hl
    have u1 := tv_hi (n := (a.length : Int)) (s := ts 3 s) hl
    have hs2 := OkS_ts (n := (a.length : Int)) hs1
    have g := getT_ix (xs := a) u0 u1
    obtain ⟨d, s3, e3, hd, hs3⟩ := (h (ix a (tv a.length (ts 3 s))) _ hs2).ex
    have hc1 := cut_to (a.map PyData.int) u0
    have hc2 := cut_from (a.map PyData.int) (k := tv a.length (ts 3 s) + 1) (by omega)
    have a1 : binop .Add (.tuple ((a.map PyData.int).take (tv a.length (ts 3 s)).toNat)) (.tuple [d]) = pure (.tuple ((a.map PyData.int).take (tv a.length (ts 3 s)).toNat ++ [d])) := binop_addT (sl (by simp; omega))
    have a2 : binop .Add (.tuple ((a.map PyData.int).take (tv a.length (ts 3 s)).toNat ++ [d])) (.tuple ((a.map PyData.int).drop (tv a.length (ts 3 s) + 1).toNat)) = pure (.tuple (((a.map PyData.int).take (tv a.length (ts 3 s)).toNat ++ [d]) ++ (a.map PyData.int).drop (tv a.length (ts 3 s) + 1).toNat)) := binop_addT (sl (by simp; omega))
    simp [startN, bd_at, stE_at, thenF_at, quiet_at, ifeS, tstS, cmp1, cmp2, binS, ixS, slS, optS, biS, callS, lstS, tupS, iterS, evsS_cons, asBool, asInt, sFor, sAsg, sIf, sRet, sExp, sTup, negS, notS, andS, orS, callF_eq, biS, hl, hl2, take_T ht hs, c, take_T ht hs1 hl (by omega), hc1, hc2, callS, g, e3, tupS, sline, a1, a2, -List.append_assoc]
    refine ⟨⟨⟨nods_of fun x hx => ?_, hd⟩, nods_of fun x hx => ?_⟩, hs3⟩
    · obtain ⟨y, _, rfl⟩ := List.mem_map.mp (List.mem_of_mem_take hx); rfl
    · obtain ⟨y, _, rfl⟩ := List.mem_map.mp (List.mem_of_mem_drop hx); rfl
  · have u0 := tv_lo (n := 8) (s := ts 3 s) (by decide)
    have u1 := tv_hi (n := 8) (s := ts 3 s) (by decide)
    have hs2 := OkS_ts (n := 8) hs1
    have a1 : binop .Add (.tuple (a.map PyData.int)) (.tuple [.int 0]) = pure (.tuple (a.map .int ++ [.int 0])) := binop_addT (sl (by simp; omega))
    have a2 : binop .Add (.tuple [.int 0]) (.tuple (a.map PyData.int)) = pure (.tuple (.int 0 :: a.map .int)) := binop_addT (sl (by simp; omega))
    have m1 : binop .Mult (.tuple (a.map PyData.int)) (.int 16) = pure (.tuple (List.replicate 16 (a.map PyData.int)).flatten) := if_pos ⟨fun z => by have := congrArg List.length z; rw [List.length_map] at this; simp only [List.length_nil] at this; omega, by decide, by decide, by rw [List.length_map]; omega⟩
    have hc := cut_neg1 (a.map PyData.int)
    have g := getL_sel (ds := [.list (a.map .int), .tuple (a.map .int ++ [.int 0]), .tuple (a.map PyData.int).dropLast, .tuple [], .none, .tuple (List.replicate 16 (a.map PyData.int)).flatten, .tuple (.int 0 :: a.map .int), .tuple [.int 0]]) u0 (by simpa using u1)
    have na := nods_ints a
    have n1 : nods (a.map .int ++ [.int 0]) = true := nods_of fun x hx => by
      rcases List.mem_append.mp hx with hx | hx
      · exact nods_mem na hx
      · simp at hx; rw [hx]; rfl
    have n2 : nods (a.map PyData.int).dropLast = true := nods_of fun x hx => nods_mem na (List.dropLast_subset _ hx)
    have n3 : nods (List.replicate 16 (a.map PyData.int)).flatten = true := nods_of fun x hx => by
      obtain ⟨l, hl, hx⟩ := List.mem_flatten.mp hx
      rw [List.eq_of_mem_replicate hl] at hx
      exact nods_mem na hx
    have hm := sel_all (P := fun d => nod d = true) (ds := [.list (a.map .int), .tuple (a.map .int ++ [.int 0]), .tuple (a.map PyData.int).dropLast, .tuple [], .none, .tuple (List.replicate 16 (a.map PyData.int)).flatten, .tuple (.int 0 :: a.map .int), .tuple [.int 0]]) u0 (by simpa using u1) (fun d hd => by
      simp only [List.mem_cons, List.mem_nil_iff, or_false] at hd
      rcases hd with rfl | rfl | rfl | rfl | rfl | rfl | rfl | rfl
      · simpa [nod] using na
      · simpa using n1
      · simpa using n2
      · rfl
      · rfl
      · simpa using n3
      · simpa using na
      · rfl)
    generalize (List.replicate 16 (a.map PyData.int)).flatten = F16 at *
    generalize (a.map PyData.int).dropLast = DL at *
    generalize sel [.list (a.map .int), .tuple (a.map .int ++ [.int 0]), .tuple DL, .tuple [], .none, .tuple F16, .tuple (.int 0 :: a.map .int), .tuple [.int 0]] (tv 8 (ts 3 s)) = d at *
    simp [startN, bd_at, stE_at, thenF_at, quiet_at, ifeS, tstS, cmp1, cmp2, binS, ixS, slS, optS, biS, callS, lstS, tupS, iterS, evsS_cons, asBool, asInt, sFor, sAsg, sIf, sRet, sExp, sTup, negS, notS, andS, orS, callF_eq, biS, hl, hl2, take_T ht hs, c, lstS, tupS, sline, a1, a2, m1, hc, take_T ht hs1, g]
    exact ⟨hm, hs2⟩
def malD : D := .str "<malformed>"
def badO : List D := [.none, .list [], .list [.int 0, .int 0], .tuple [.int 0], .list [.int 1, .int (-1)], .list [.bool true], .str "1", .list (List.replicate 31 (.int 1)), .list [.int 1000001]]
def L6 : List Str := ["plain", "mean", "variance", "least_number", "middle_number", "draw_of"]
def L8 : List Str := ["chance", "above", "upto", "excess", "lack", "power_mean", "both", "has_mean"]
theorem callTS_at {call : Str → List D → M D} {j : Int} {fs : List Str} {f : Str} (h : L2.atI fs j = some f) (ms : List (M D)) : callTS call (pure (.int j)) fs ms = (do let xs ← evsS ms; call f xs) := by
  unfold callTS
  show (match L2.atI fs j with | some f => (do let xs ← evsS ms; call f xs) | none => (fail : M D)) = _
  rw [h]
section
variable {call : Str → List D → M D} {w : Nat}
theorem tA {i : Int} {nm : Str} {y z v : D} (h6 : i < 6) (hn : L2.atI L6 i = some nm) (hc : call nm [y] = pure v) : S__law_told call w [.int i, y, z] = pure v := by
  have t := fun ms => callTS_at (call := call) hn ms
  unfold L6 at t
  unfold S__law_told
  rw [runS_3]
  simp [startN, h6, t, hc]
theorem tA' {i : Int} {nm : Str} {y z : D} (h6 : i < 6) (hn : L2.atI L6 i = some nm) (hc : call nm [y] = throwX malE) : S__law_told call w [.int i, y, z] = pure malD := by
  have t := fun ms => callTS_at (call := call) hn ms
  unfold L6 at t
  unfold S__law_told
  rw [runS_3]
  simp [startN, h6, t, hc, malE, sRet]
  (rw [catch_rz malD (by decide +kernel) (by simp) rfl (by kernel_rfl)]; simp)
theorem tB {i : Int} {nm : Str} {y z v : D} (h6 : ¬ i < 6) (hn : L2.atI L8 (i - 6) = some nm) (hc : call nm [y, z] = pure v) : S__law_told call w [.int i, y, z] = pure v := by
  have t := fun ms => callTS_at (call := call) hn ms
  unfold L8 at t
  unfold S__law_told
  rw [runS_3]
  simp [startN, h6, t, hc]
theorem tB' {i : Int} {nm : Str} {y z : D} (h6 : ¬ i < 6) (hn : L2.atI L8 (i - 6) = some nm) (hc : call nm [y, z] = throwX malE) : S__law_told call w [.int i, y, z] = pure malD := by
  have t := fun ms => callTS_at (call := call) hn ms
  unfold L8 at t
  unfold S__law_told
  rw [runS_3]
  simp [startN, h6, t, hc, malE, sRet]
  (rw [catch_rz malD (by decide +kernel) (by simp) rfl (by kernel_rfl)]; simp)
def five : List (Int × (List Int → Int → Int)) := [(6, chV), (7, abV), (8, upV), (9, exV), (10, laV)]
structure Sp__law_told01 (f : List D → M D) : Prop where
  g0 : ∀ a z, IsDr a → f [.int 0, tupD a, z] = pure (tupD (a.map fun x => x / plG a))
  g1 : ∀ a z, IsDr a → f [.int 1, tupD a, z] = pure (frD (exV a 0) a.sum)
  g2 : ∀ a z, IsDr a → f [.int 2, tupD a, z] = pure (frD (m2V a * a.sum - m1V a * m1V a) (a.sum * a.sum))
  g3 : ∀ a z, IsDr a → f [.int 3, tupD a, z] = pure (.int (1 + ((poL a).headD 0 : Int)))
  g4 : ∀ a z, IsDr a → f [.int 4, tupD a, z] = pure (.int (1 + ((meL a).headD 0 : Int)))
  g5 : ∀ a m z, IsDr a → f [.int 5, .list (a.map .int ++ List.replicate m (.int 0)), z] = pure (tupD a)
  b5 : ∀ b z, b ∈ badO → f [.int 5, b, z] = pure malD
  gn : ∀ a k p, IsDr a → 0 ≤ k → k ≤ 1000 → p ∈ five → f [.int p.1, tupD a, .int k] = pure (frD (p.2 a k) a.sum)
  g11 : ∀ a n d, IsDr a → 0 ≤ n → n ≤ d → 0 < d → d ≤ 9 → Int.gcd n d = 1 → f [.int 11, tupD a, .tuple [.int n, .int d]] = pure (frD (pwF a n d).1 ((pwF a n d).2 * a.sum))
  g12 : ∀ a b, IsDr a → IsDr b → f [.int 12, tupD a, tupD b] = pure (.tuple [tupD (xr a b), tupD (yr a b)])
  g13 : ∀ a b, IsDr a → IsDr b → f [.int 13, tupD a, tupD b] = pure (.bool (decide (exV a 0 * b.sum = exV b 0 * a.sum)))
  by1 : ∀ y z i, nod y = true → isDraw y = false → i ∈ ([0, 1, 2, 3, 4, 6, 7, 8, 9, 10, 11, 12, 13] : List Int) → f [.int i, y, z] = pure malD
  by2 : ∀ a y i, IsDr a → nod y = true → isDraw y = false → i ∈ ([12, 13] : List Int) → f [.int i, tupD a, y] = pure malD
  bn : ∀ a b i, IsDr a → b ∈ badN → i ∈ ([6, 7, 8, 9, 10] : List Int) → f [.int i, tupD a, b] = pure malD
  b11 : ∀ a b, IsDr a → b ∈ badB8 → f [.int 11, tupD a, b] = pure malD
theorem isDr_eq {a : List Int} (ha : IsDr a) : isDraw (.tuple (a.map .int)) = true := ha.is
theorem stop_dr {a : List Int} (ha : IsDr a) : stopD (a.map .int) := by
  obtain ⟨ys, z, rfl⟩ := snoc_of ha.one
  obtain ⟨x, hx, h0⟩ := ha.last
  simp at hx
  subst hx
  exact .inr ⟨ys.map .int, .int z, by simp, rfl, .inr ⟨z, rfl, by omega⟩⟩
theorem told01 (h0 : Sp_plain (call "plain")) (h1 : Sp_mean (call "mean")) (h2 : Sp_variance (call "variance")) (h3 : Sp_least_number (call "least_number")) (h4 : Sp_middle_number (call "middle_number")) (h5 : Sp_draw_of (call "draw_of")) (h6 : Sp_chance (call "chance")) (h7 : Sp_above (call "above")) (h8 : Sp_upto (call "upto")) (h9 : Sp_excess (call "excess")) (h10 : Sp_lack (call "lack")) (h11 : Sp_power_mean (call "power_mean")) (h12 : Sp_both (call "both")) (h13 : Sp_has_mean (call "has_mean")) : Sp__law_told01 (S__law_told call w) where
  g0 := fun a z ha => tA (by decide) rfl (h0.1 a ha)
  g1 := fun a z ha => tA (by decide) rfl (h1.1 a ha)
  g2 := fun a z ha => tA (by decide) rfl (h2.1 a ha)
  g3 := fun a z ha => tA (by decide) rfl (h3.1 a ha)
  g4 := fun a z ha => tA (by decide) rfl (h4.1 a ha)
  g5 := fun a m z ha => by
    have e := (h5.1 (a.map .int) m (stop_dr ha) (by simp)).1
    rw [if_pos (isDr_eq ha)] at e
    exact tA (by decide) rfl e
  b5 := fun b z hb => by
    have l : ∀ (ys : List D) (m : Nat), stopD ys → nods ys = true → isDraw (.tuple ys) = false → call "draw_of" [.list (ys ++ List.replicate m (.int 0))] = throwX malE ∧ call "draw_of" [.tuple (ys ++ List.replicate m (.int 0))] = throwX malE := fun ys m hs hn hf => by
      have e := h5.1 ys m hs hn
      rw [hf] at e
      simpa using e
    have sn : stopD [] := .inl rfl
    simp only [badO, List.mem_cons, List.mem_nil_iff, or_false] at hb
    rcases hb with rfl | rfl | rfl | rfl | rfl | rfl | rfl | rfl | rfl
    · exact tA' (by decide) rfl h5.2.1
    · exact tA' (by decide) rfl (l [] 0 sn rfl rfl).1
    · exact tA' (by decide) rfl (l [] 2 sn rfl rfl).1
    · exact tA' (by decide) rfl (l [] 1 sn rfl rfl).2
    · exact tA' (by decide) rfl (l [.int 1, .int (-1)] 0 (.inr ⟨[.int 1], .int (-1), rfl, rfl, .inr ⟨-1, rfl, by decide⟩⟩) rfl (by decide +kernel)).1
    · exact tA' (by decide) rfl (l [.bool true] 0 (.inr ⟨[], .bool true, rfl, rfl, .inl rfl⟩) rfl (by decide +kernel)).1
    · exact tA' (by decide) rfl h5.2.2
    · exact tA' (by decide) rfl (l (List.replicate 31 (.int 1)) 0 (.inr ⟨List.replicate 30 (.int 1), .int 1, rfl, rfl, .inr ⟨1, rfl, by decide⟩⟩) (by decide +kernel) (by decide +kernel)).1
    · exact tA' (by decide) rfl (l [.int 1000001] 0 (.inr ⟨[], .int 1000001, rfl, rfl, .inr ⟨1000001, rfl, by decide⟩⟩) rfl (by decide +kernel)).1
  gn := fun a k p ha k0 k1 hp => by
    simp only [five, List.mem_cons, List.mem_nil_iff, or_false] at hp
    rcases hp with rfl | rfl | rfl | rfl | rfl
    · exact tB (by decide) rfl (h6.1 a k ha k0 k1)
    · exact tB (by decide) rfl (h7.1 a k ha k0 k1)
    · exact tB (by decide) rfl (h8.1 a k ha k0 k1)
    · exact tB (by decide) rfl (h9.1 a k ha k0 k1)
    · exact tB (by decide) rfl (h10.1 a k ha k0 k1)
  g11 := fun a n d ha n0 n1 d0 d1 hg => tB (by decide) rfl (h11.1 a n d ha n0 n1 d0 d1 hg)
  g12 := fun a b ha hb => tB (by decide) rfl (h12.1 a b ha hb)
  g13 := fun a b ha hb => tB (by decide) rfl (h13.1 a b ha hb)
  by1 := fun y z i hy hf hi => by
    simp only [List.mem_cons, List.mem_nil_iff, or_false] at hi
    rcases hi with rfl | rfl | rfl | rfl | rfl | rfl | rfl | rfl | rfl | rfl | rfl | rfl | rfl
    · exact tA' (by decide) rfl (h0.2 y hy hf)
    · exact tA' (by decide) rfl (h1.2 y hy hf)
    · exact tA' (by decide) rfl (h2.2 y hy hf)
    · exact tA' (by decide) rfl (h3.2 y hy hf)
    · exact tA' (by decide) rfl (h4.2 y hy hf)
    · exact tB' (by decide) rfl (h6.2.1 y z hy hf)
    · exact tB' (by decide) rfl (h7.2.1 y z hy hf)
    · exact tB' (by decide) rfl (h8.2.1 y z hy hf)
    · exact tB' (by decide) rfl (h9.2.1 y z hy hf)
    · exact tB' (by decide) rfl (h10.2.1 y z hy hf)
    · exact tB' (by decide) rfl (h11.2.1 y z hy hf)
    · exact tB' (by decide) rfl (h12.2.1 y z hy hf)
    · exact tB' (by decide) rfl (h13.2.1 y z hy hf)
  by2 := fun a y i ha hy hf hi => by
    simp only [List.mem_cons, List.mem_nil_iff, or_false] at hi
    rcases hi with rfl | rfl
    · exact tB' (by decide) rfl (h12.2.2 a y ha hy hf)
    · exact tB' (by decide) rfl (h13.2.2 a y ha hy hf)
  bn := fun a b i ha hb hi => by
    simp only [List.mem_cons, List.mem_nil_iff, or_false] at hi
    rcases hi with rfl | rfl | rfl | rfl | rfl
    · exact tB' (by decide) rfl (h6.2.2 a b ha hb)
    · exact tB' (by decide) rfl (h7.2.2 a b ha hb)
    · exact tB' (by decide) rfl (h8.2.2 a b ha hb)
    · exact tB' (by decide) rfl (h9.2.2 a b ha hb)
    · exact tB' (by decide) rfl (h10.2.2 a b ha hb)
  b11 := fun a b ha hb => tB' (by decide) rfl (h11.2.2 a b ha hb)
theorem s__law_told01 (h0 : Sp_plain (call "plain")) (h1 : Sp_mean (call "mean")) (h2 : Sp_variance (call "variance")) (h3 : Sp_least_number (call "least_number")) (h4 : Sp_middle_number (call "middle_number")) (h5 : Sp_draw_of (call "draw_of")) (h6 : Sp_chance (call "chance")) (h7 : Sp_above (call "above")) (h8 : Sp_upto (call "upto")) (h9 : Sp_excess (call "excess")) (h10 : Sp_lack (call "lack")) (h11 : Sp_power_mean (call "power_mean")) (h12 : Sp_both (call "both")) (h13 : Sp_has_mean (call "has_mean")) : Sp__law_told01 (S__law_told call w) := told01 h0 h1 h2 h3 h4 h5 h6 h7 h8 h9 h10 h11 h12 h13
end
end Py

set_option Elab.async false
set_option linter.all false
set_option maxRecDepth 100000
namespace Py
open PySem
def S_law_e0 (call : Str → List D → M D) (w : Nat) (σ : St) : M D :=
  (callS call ("_law_told" : Str) [(rdV σ 22), (rdV σ 20), (pure (.int 1))])
def S_law_k1 (call : Str → List D → M D) (w : Nat) (σ : St) : M Flow :=
  thenF (sIf σ (andS [(notS (callS call ("_law_is_draw" : Str) [(rdV σ 20)])), (cmp1 (lstS [(callS call ("_law_told" : Str) [(pure (.int 11)), (rdV σ 20), (tupS [(pure (.int 1)), (pure (.int 2))])]), (callS call ("_law_told" : Str) [(pure (.int 12)), (rdV σ 20), (rdV σ 3)]), (callS call ("_law_told" : Str) [(pure (.int 13)), (rdV σ 3), (rdV σ 20)])]) (binS .Mult (lstS [(pure (.str "<malformed>"))]) (pure (.int 3))) .NotEq)])
  (thenF (sRet (frz σ [0, 1, 2, 3, 4, 5, 6, 7, 8, 9, 10, 11, 12, 13, 14, 15, 16, 17, 18, 19, 20, 21]) (pure (.bool false)) false) fun σ =>
    sEnd σ)
  (sEnd σ)) fun σ =>
  sEnd σ
def S_law_k2 (call : Str → List D → M D) (w : Nat) (σ : St) : M Flow :=
  thenF (sIf σ (andS [(notS (callS call ("_law_is_draw" : Str) [(rdV σ 20)])), (cmp1 (compS (dataI (lstS [(pure (.int 0)), (pure (.int 1)), (pure (.int 2)), (pure (.int 3)), (pure (.int 4)), (pure (.int 6)), (pure (.int 7)), (pure (.int 8)), (pure (.int 9)), (pure (.int 10))])) (fun d => bindG (.one 22) (wipe σ [22]) d) (fun _ => pure true) (S_law_e0 call w)) (binS .Mult (lstS [(pure (.str "<malformed>"))]) (pure (.int 10))) .NotEq)])
  (thenF (sRet (frz σ [0, 1, 2, 3, 4, 5, 6, 7, 8, 9, 10, 11, 12, 13, 14, 15, 16, 17, 18, 19, 20, 21]) (pure (.bool false)) false) fun σ =>
    sEnd σ)
  (sEnd σ)) (S_law_k1 call w)
def S_law_k3 (call : Str → List D → M D) (w : Nat) (σ : St) : M Flow :=
  thenF (sIf σ (notS (callS call ("_law_says" : Str) [(callS call ("is_draw" : Str) [(rdV σ 20)]), (callS call ("_law_is_draw" : Str) [(rdV σ 20)])]))
  (thenF (sRet (frz σ [0, 1, 2, 3, 4, 5, 6, 7, 8, 9, 10, 11, 12, 13, 14, 15, 16, 17, 18, 19, 20, 21]) (pure (.bool false)) false) fun σ =>
    sEnd σ)
  (sEnd σ)) (S_law_k2 call w)
def S_law_b4 (call : Str → List D → M D) (w : Nat) (σ : St) : M Flow :=
  thenF (sAsg (frz σ [1, 2]) (callS call ("_law_bent" : Str) [(rdV (frz σ [1, 2]) 1), (rdV (frz σ [1, 2]) 2)]) 20 false) (S_law_k3 call w)
def S_law_b5 (call : Str → List D → M D) (w : Nat) (σ : St) : M Flow :=
  thenF (sAsg (frz σ [7, 8, 7]) (ifeS (cmp1 (rd (frz σ [7, 8, 7]) 8) (pure (.int 0)) .Gt) (callS call ("_law_gcd" : Str) [(rdV (frz σ [7, 8, 7]) 7), (rdV (frz σ [7, 8, 7]) 8)]) (rdV (frz σ [7, 8, 7]) 7)) 7 false) fun σ =>
  sEnd σ
def S_law_e6 (call : Str → List D → M D) (w : Nat) (σ : St) : M D :=
  (binS .FloorDiv (rd σ 8) (rd σ 7))
def S_law_e7 (call : Str → List D → M D) (w : Nat) (σ : St) : M D :=
  (binS .Mult (binS .Add (rd σ 11) (pure (.int 1))) (ixS (rd σ 2) (rd σ 11)))
def S_law_e8 (call : Str → List D → M D) (w : Nat) (σ : St) : M D :=
  (binS .Mult (binS .Mult (binS .Add (rd σ 11) (pure (.int 1))) (binS .Add (rd σ 11) (pure (.int 1)))) (ixS (rd σ 2) (rd σ 11)))
def S_law_i9 (call : Str → List D → M D) (w : Nat) (σ : St) : M Bool :=
  tstS (cmp1 (ixS (rd σ 2) (rd σ 11)) (pure (.int 0)) .Gt)
def S_law_e10 (call : Str → List D → M D) (w : Nat) (σ : St) : M D :=
  (binS .Add (rd σ 11) (pure (.int 1)))
def S_law_i11 (call : Str → List D → M D) (w : Nat) (σ : St) : M Bool :=
  tstS (cmp1 (binS .Mult (pure (.int 2)) (biS ("sum" : Str) [(slS (rd σ 2) none (some (binS .Add (rd σ 11) (pure (.int 1)))))])) (rd σ 5) .GtE)
def S_law_e12 (call : Str → List D → M D) (w : Nat) (σ : St) : M D :=
  (binS .Add (rd σ 11) (pure (.int 1)))
def S_law_e13 (call : Str → List D → M D) (w : Nat) (σ : St) : M D :=
  (binS .Mult (ixS (rd σ 2) (rd σ 23)) (biS ("max" : Str) [(pure (.int 0)), (binS .Sub (binS .Add (rd σ 23) (pure (.int 1))) (rd σ 11))]))
def S_law_e14 (call : Str → List D → M D) (w : Nat) (σ : St) : M D :=
  (binS .Mult (ixS (rd σ 2) (rd σ 23)) (biS ("max" : Str) [(pure (.int 0)), (binS .Sub (binS .Sub (rd σ 11) (rd σ 23)) (pure (.int 1)))]))
def S_law_e15 (call : Str → List D → M D) (w : Nat) (σ : St) : M D :=
  (callS call ("_law_told" : Str) [(rdV σ 22), (rdV σ 2), (rdV σ 11)])
def S_law_k16 (call : Str → List D → M D) (w : Nat) (σ : St) : M Flow :=
  thenF (sIf σ (cmp1 (compS (dataI (lstS [(pure (.int 6)), (pure (.int 7)), (pure (.int 8)), (pure (.int 9)), (pure (.int 10))])) (fun d => bindG (.one 22) (wipe σ [22]) d) (fun _ => pure true) (S_law_e15 call w)) (rd σ 21) .NotEq)
  (thenF (sRet (frz σ [0, 1, 2, 3, 4, 5, 6, 7, 8, 9, 10, 11, 12, 13, 14, 15, 16, 17, 18, 19, 20, 21]) (pure (.bool false)) false) fun σ =>
    sEnd σ)
  (sEnd σ)) fun σ =>
  sEnd σ
def S_law_k17 (call : Str → List D → M D) (w : Nat) (σ : St) : M Flow :=
  thenF (sApp (frz σ [5]) 21 (callS call ("_law_low" : Str) [(biS ("sum" : Str) [(compS (iterS ("range" : Str) [(rd (frz σ [5]) 6)]) (fun d => bindG (.one 23) (wipe (frz σ [5]) [23]) d) (fun _ => pure true) (S_law_e14 call w))]), (rdV (frz σ [5]) 5)])) (S_law_k16 call w)
def S_law_k18 (call : Str → List D → M D) (w : Nat) (σ : St) : M Flow :=
  thenF (sApp (frz σ [5]) 21 (callS call ("_law_low" : Str) [(biS ("sum" : Str) [(compS (iterS ("range" : Str) [(rd (frz σ [5]) 6)]) (fun d => bindG (.one 23) (wipe (frz σ [5]) [23]) d) (fun _ => pure true) (S_law_e13 call w))]), (rdV (frz σ [5]) 5)])) (S_law_k17 call w)
def S_law_b19 (call : Str → List D → M D) (w : Nat) (σ : St) : M Flow :=
  thenF (sAsg (frz σ [5, 5, 5]) (lstS [(callS call ("_law_low" : Str) [(ifeS (cmp2 (pure (.int 1)) (rd (frz σ [5, 5, 5]) 11) (rd (frz σ [5, 5, 5]) 6) .LtE .LtE) (ixS (rd (frz σ [5, 5, 5]) 2) (binS .Sub (rd (frz σ [5, 5, 5]) 11) (pure (.int 1)))) (pure (.int 0))), (rdV (frz σ [5, 5, 5]) 5)]), (callS call ("_law_low" : Str) [(biS ("sum" : Str) [(slS (rd (frz σ [5, 5, 5]) 2) (some (biS ("max" : Str) [(pure (.int 0)), (binS .Sub (rd (frz σ [5, 5, 5]) 11) (pure (.int 1)))])) none)]), (rdV (frz σ [5, 5, 5]) 5)]), (callS call ("_law_low" : Str) [(biS ("sum" : Str) [(slS (rd (frz σ [5, 5, 5]) 2) none (some (rd (frz σ [5, 5, 5]) 11)))]), (rdV (frz σ [5, 5, 5]) 5)])]) 21 true) (S_law_k18 call w)
def S_law_k20 (call : Str → List D → M D) (w : Nat) (σ : St) : M Flow :=
  thenF (sAsg σ (binS .Mult (rd σ 15) (rd σ 12)) 15 true) fun σ =>
  sEnd σ
def S_law_b21 (call : Str → List D → M D) (w : Nat) (σ : St) : M Flow :=
  thenF (sAsg σ (binS .Mult (binS .Add (rd σ 14) (binS .Mult (ixS (rd σ 2) (binS .Sub (binS .Sub (rd σ 6) (pure (.int 1))) (rd σ 11))) (rd σ 15))) (rd σ 13)) 14 true) (S_law_k20 call w)
def S_law_e22 (call : Str → List D → M D) (w : Nat) (σ : St) : M D :=
  (binS .Mult (binS .Add (rd σ 11) (pure (.int 1))) (binS .Sub (ixS (rd σ 16) (rd σ 11)) (ixS (rd σ 17) (rd σ 11))))
def S_law_e23 (call : Str → List D → M D) (w : Nat) (σ : St) : M D :=
  (callS call ("_law_told" : Str) [(rdV σ 22), (rdV σ 2), (rdV σ 19)])
def S_law_b24 (call : Str → List D → M D) (w : Nat) (σ : St) : M Flow :=
  thenF (sIf σ (cmp1 (compS (dataI (lstS [(pure (.int 6)), (pure (.int 7)), (pure (.int 8)), (pure (.int 9)), (pure (.int 10))])) (fun d => bindG (.one 22) (wipe σ [22]) d) (fun _ => pure true) (S_law_e23 call w)) (binS .Mult (lstS [(pure (.str "<malformed>"))]) (pure (.int 5))) .NotEq)
  (thenF (sRet (frz σ [0, 1, 2, 3, 4, 5, 6, 7, 8, 9, 10, 11, 12, 13, 14, 15, 16, 17, 18, 19, 20, 21]) (pure (.bool false)) false) fun σ =>
    sEnd σ)
  (sEnd σ)) fun σ =>
  sEnd σ
def S_law_b25 (call : Str → List D → M D) (w : Nat) (σ : St) : M Flow :=
  thenF (sIf σ (cmp1 (callS call ("_law_told" : Str) [(pure (.int 11)), (rdV σ 2), (rdV σ 19)]) (pure (.str "<malformed>")) .NotEq)
  (thenF (sRet (frz σ [0, 1, 2, 3, 4, 5, 6, 7, 8, 9, 10, 11, 12, 13, 14, 15, 16, 17, 18, 19, 20, 21]) (pure (.bool false)) false) fun σ =>
    sEnd σ)
  (sEnd σ)) fun σ =>
  sEnd σ
def S_law_e26 (call : Str → List D → M D) (w : Nat) (σ : St) : M D :=
  (callS call ("_law_told" : Str) [(pure (.int 5)), (rdV σ 19), (pure (.int 0))])
def S_law_k27 (call : Str → List D → M D) (w : Nat) (σ : St) : M Flow :=
  thenF (sRet (frz σ [0, 1, 2, 3, 4, 5, 6, 7, 8, 9, 10, 11, 12, 13, 14, 15, 16, 17, 18, 19, 20, 21]) (cmp1 (compS (dataI (lstS [(pure (.none)), (lstS []), (lstS [(pure (.int 0)), (pure (.int 0))]), (tupS [(pure (.int 0))]), (lstS [(pure (.int 1)), (negS (pure (.int 1)))]), (lstS [(pure (.bool true))]), (pure (.str "1")), (binS .Mult (lstS [(pure (.int 1))]) (pure (.int 31))), (lstS [(pure (.int 1000001))])])) (fun d => bindG (.one 19) (wipe (frz σ [0, 1, 2, 3, 4, 5, 6, 7, 8, 9, 10, 11, 12, 13, 14, 15, 16, 17, 18, 19, 20, 21]) [19]) d) (fun _ => pure true) (S_law_e26 call w)) (binS .Mult (lstS [(pure (.str "<malformed>"))]) (pure (.int 9))) .Eq) false) fun σ =>
  sEnd σ
def S_law_k28 (call : Str → List D → M D) (w : Nat) (σ : St) : M Flow :=
  thenF (sFor σ (dataI (lstS [(pure (.none)), (tupS [(pure (.int 2)), (pure (.int 4))]), (tupS [(negS (pure (.int 1))), (pure (.int 2))]), (tupS [(pure (.int 3)), (pure (.int 2))]), (tupS [(pure (.int 1)), (pure (.int 0))]), (pure (.int 1)), (pure (.str "1"))])) (.one 19) (S_law_b25 call w)) (S_law_k27 call w)
def S_law_k29 (call : Str → List D → M D) (w : Nat) (σ : St) : M Flow :=
  thenF (sFor σ (dataI (lstS [(negS (pure (.int 1))), (pure (.none)), (pure (.bool true)), (pure (.str "1")), (tupS [(pure (.int 1))]), (lstS [(pure (.int 2))])])) (.one 19) (S_law_b24 call w)) (S_law_k28 call w)
def S_law_k30 (call : Str → List D → M D) (w : Nat) (σ : St) : M Flow :=
  thenF (sIf σ (orS [(cmp1 (callS call ("_law_told" : Str) [(pure (.int 12)), (rdV σ 2), (rdV σ 3)]) (tupS [(biS ("tuple" : Str) [(rd σ 16)]), (biS ("tuple" : Str) [(rd σ 17)])]) .NotEq), (notS (callS call ("_law_says" : Str) [(callS call ("_law_told" : Str) [(pure (.int 13)), (rdV σ 2), (rdV σ 3)]), (rdV σ 18)]))])
  (thenF (sRet (frz σ [0, 1, 2, 3, 4, 5, 6, 7, 8, 9, 10, 11, 12, 13, 14, 15, 16, 17, 18, 19, 20, 21]) (pure (.bool false)) false) fun σ =>
    sEnd σ)
  (sEnd σ)) (S_law_k29 call w)
def S_law_k31 (call : Str → List D → M D) (w : Nat) (σ : St) : M Flow :=
  thenF (sAsg σ (cmp1 (biS ("sum" : Str) [(compS (iterS ("range" : Str) [(biS ("len" : Str) [(rd σ 16)])]) (fun d => bindG (.one 11) (wipe σ [11]) d) (fun _ => pure true) (S_law_e22 call w))]) (pure (.int 0)) .Eq) 18 false) (S_law_k30 call w)
def S_law_k32 (call : Str → List D → M D) (w : Nat) (σ : St) : M Flow :=
  thenF (sTup (frz σ [2, 3]) (callS call ("_law_both" : Str) [(rdV (frz σ [2, 3]) 2), (rdV (frz σ [2, 3]) 3)]) (.many [16, 17])) (S_law_k31 call w)
def S_law_k33 (call : Str → List D → M D) (w : Nat) (σ : St) : M Flow :=
  thenF (sIf σ (cmp1 (callS call ("_law_told" : Str) [(pure (.int 11)), (rdV σ 2), (callS call ("_law_low" : Str) [(rdV σ 13), (rdV σ 12)])]) (callS call ("_law_low" : Str) [(rdV σ 14), (binS .Mult (rd σ 15) (rd σ 5))]) .NotEq)
  (thenF (sRet (frz σ [0, 1, 2, 3, 4, 5, 6, 7, 8, 9, 10, 11, 12, 13, 14, 15, 16, 17, 18, 19, 20, 21]) (pure (.bool false)) false) fun σ =>
    sEnd σ)
  (sEnd σ)) (S_law_k32 call w)
def S_law_k34 (call : Str → List D → M D) (w : Nat) (σ : St) : M Flow :=
  thenF (sFor (frz σ [6]) (iterS ("range" : Str) [(rdV (frz σ [6]) 6)]) (.one 11) (S_law_b21 call w)) (S_law_k33 call w)
def S_law_k35 (call : Str → List D → M D) (w : Nat) (σ : St) : M Flow :=
  thenF (sTup σ (tupS [(pure (.int 0)), (pure (.int 1))]) (.many [14, 15])) (S_law_k34 call w)
def S_law_k36 (call : Str → List D → M D) (w : Nat) (σ : St) : M Flow :=
  thenF (sAsg σ (callF call ("_law_take" : Str) [(rd σ 1), (binS .Add (rd σ 12) (pure (.int 1)))]) 13 false) (S_law_k35 call w)
def S_law_k37 (call : Str → List D → M D) (w : Nat) (σ : St) : M Flow :=
  thenF (sAsg σ (binS .Add (pure (.int 1)) (callF call ("_law_take" : Str) [(rd σ 1), (pure (.int 9))])) 12 true) (S_law_k36 call w)
def S_law_k38 (call : Str → List D → M D) (w : Nat) (σ : St) : M Flow :=
  thenF (sFor (frz σ [6]) (dataI (lstS [(pure (.int 0)), (pure (.int 1)), (binS .Add (pure (.int 1)) (callF call ("_law_take" : Str) [(rd (frz σ [6]) 1), (rd (frz σ [6]) 6)])), (rdV (frz σ [6]) 6), (binS .Add (rd (frz σ [6]) 6) (pure (.int 1))), (binS .Add (rd (frz σ [6]) 6) (pure (.int 9)))])) (.one 11) (S_law_b19 call w)) (S_law_k37 call w)
def S_law_k39 (call : Str → List D → M D) (w : Nat) (σ : St) : M Flow :=
  thenF (sIf σ (orS [(cmp1 (callS call ("_law_told" : Str) [(pure (.int 3)), (rdV σ 2), (pure (.int 0))]) (biS ("min" : Str) [(compS (iterS ("range" : Str) [(rd σ 6)]) (fun d => bindG (.one 11) (wipe σ [11]) d) (S_law_i9 call w) (S_law_e10 call w))]) .NotEq), (cmp1 (callS call ("_law_told" : Str) [(pure (.int 4)), (rdV σ 2), (pure (.int 0))]) (biS ("min" : Str) [(compS (iterS ("range" : Str) [(rd σ 6)]) (fun d => bindG (.one 11) (wipe σ [11]) d) (S_law_i11 call w) (S_law_e12 call w))]) .NotEq)])
  (thenF (sRet (frz σ [0, 1, 2, 3, 4, 5, 6, 7, 8, 9, 10, 11, 12, 13, 14, 15, 16, 17, 18, 19, 20, 21]) (pure (.bool false)) false) fun σ =>
    sEnd σ)
  (sEnd σ)) (S_law_k38 call w)
def S_law_k40 (call : Str → List D → M D) (w : Nat) (σ : St) : M Flow :=
  thenF (sIf σ (orS [(cmp1 (callS call ("_law_told" : Str) [(pure (.int 1)), (rdV σ 2), (pure (.int 0))]) (callS call ("_law_low" : Str) [(rdV σ 9), (rdV σ 5)]) .NotEq), (cmp1 (callS call ("_law_told" : Str) [(pure (.int 2)), (rdV σ 2), (pure (.int 0))]) (callS call ("_law_low" : Str) [(binS .Sub (binS .Mult (rd σ 10) (rd σ 5)) (binS .Mult (rd σ 9) (rd σ 9))), (binS .Mult (rd σ 5) (rd σ 5))]) .NotEq)])
  (thenF (sRet (frz σ [0, 1, 2, 3, 4, 5, 6, 7, 8, 9, 10, 11, 12, 13, 14, 15, 16, 17, 18, 19, 20, 21]) (pure (.bool false)) false) fun σ =>
    sEnd σ)
  (sEnd σ)) (S_law_k39 call w)
def S_law_k41 (call : Str → List D → M D) (w : Nat) (σ : St) : M Flow :=
  thenF (sParN σ [false, false] [(biS ("sum" : Str) [(compS (iterS ("range" : Str) [(rd σ 6)]) (fun d => bindG (.one 11) (wipe σ [11]) d) (fun _ => pure true) (S_law_e7 call w))]), (biS ("sum" : Str) [(compS (iterS ("range" : Str) [(rd σ 6)]) (fun d => bindG (.one 11) (wipe σ [11]) d) (fun _ => pure true) (S_law_e8 call w))])] [9, 10]) (S_law_k40 call w)
def S_law_k42 (call : Str → List D → M D) (w : Nat) (σ : St) : M Flow :=
  thenF (sIf σ (cmp1 (callS call ("_law_told" : Str) [(pure (.int 0)), (rdV σ 2), (pure (.int 0))]) (biS ("tuple" : Str) [(compS (dataI (rd σ 2)) (fun d => bindG (.one 8) (wipe σ [8]) d) (fun _ => pure true) (S_law_e6 call w))]) .NotEq)
  (thenF (sRet (frz σ [0, 1, 2, 3, 4, 5, 6, 7, 8, 9, 10, 11, 12, 13, 14, 15, 16, 17, 18, 19, 20, 21]) (pure (.bool false)) false) fun σ =>
    sEnd σ)
  (sEnd σ)) (S_law_k41 call w)
def S_law_k43 (call : Str → List D → M D) (w : Nat) (σ : St) : M Flow :=
  thenF (sFor (frz (frz σ [2]) [2]) (dataI (rdV (frz (frz σ [2]) [2]) 2)) (.one 8) (S_law_b5 call w)) (S_law_k42 call w)
def S_law_k44 (call : Str → List D → M D) (w : Nat) (σ : St) : M Flow :=
  thenF (sAsg σ (pure (.int 0)) 7 false) (S_law_k43 call w)
def S_law_k45 (call : Str → List D → M D) (w : Nat) (σ : St) : M Flow :=
  thenF (sTup σ (tupS [(biS ("sum" : Str) [(rd σ 2)]), (biS ("len" : Str) [(rd σ 2)])]) (.many [5, 6])) (S_law_k44 call w)
def S_law_k46 (call : Str → List D → M D) (w : Nat) (σ : St) : M Flow :=
  thenF (sFor σ (iterS ("range" : Str) [(pure (.int 6))]) (.one 4) (S_law_b4 call w)) (S_law_k45 call w)
def S_law_k47 (call : Str → List D → M D) (w : Nat) (σ : St) : M Flow :=
  thenF (sIf σ (orS [(cmp1 (callS call ("is_draw" : Str) [(rdV σ 2)]) (pure (.bool true)) .IsNot), (cmp1 (callS call ("_law_told" : Str) [(pure (.int 5)), (binS .Add (biS ("list" : Str) [(rd σ 2)]) (binS .Mult (lstS [(pure (.int 0))]) (callF call ("_law_take" : Str) [(rd σ 1), (pure (.int 3))]))), (pure (.int 0))]) (rd σ 2) .NotEq)])
  (thenF (sRet (frz σ [0, 1, 2, 3, 4, 5, 6, 7, 8, 9, 10, 11, 12, 13, 14, 15, 16, 17, 18, 19, 20, 21]) (pure (.bool false)) false) fun σ =>
    sEnd σ)
  (sEnd σ)) (S_law_k46 call w)
def nLaw : List Str := ["script", "draw", "one", "two", "turn", "whole", "size", "part", "item", "first", "second", "k", "d", "n", "found", "scale", "x", "y", "level", "bad", "value", "dues", "which", "i"]
def S_law (call : Str → List D → M D) (w : Nat) (σ : St) : M Flow :=
  thenF (sTup (frz σ [1]) (callS call ("_law_pair" : Str) [(rdV (frz σ [1]) 1), (ixS (lstS [(pure (.int 9)), (pure (.int 9)), (pure (.int 28))]) (callF call ("_law_take" : Str) [(rd (frz σ [1]) 1), (pure (.int 3))])), (ixS (lstS [(pure (.int 50)), (pure (.int 240000))]) (callF call ("_law_take" : Str) [(rd (frz σ [1]) 1), (pure (.int 2))]))]) (.many [2, 3])) (S_law_k47 call w)
def R01 (fl : Flow) (_ : DS) : Prop := ∃ o, fl = .ret (.bool true) o
def st01 (a b : List Int) (v4 v5 v6 v7 v8 v9 v10 v11 v12 v13 v14 v15 v16 v17 v18 v19 v20 v21 : Sl) : St := [none, some (tok, false), some (tupD a, false), some (tupD b, false), v4, v5, v6, v7, v8, v9, v10, v11, v12, v13, v14, v15, v16, v17, v18, v19, v20, v21, none, none]
structure SatQ (r : Res Flow) (Q : Flow → DS → Prop) : Prop where
  h : r.sat Q
structure Sa (r : Res Flow) : Prop where
  h : r.sat R01
section
variable {call : Str → List D → M D} {w : Nat}
theorem p27 (hT : Sp__law_told01 (call "_law_told")) {a b : List Int} (v4 v5 v6 v7 v8 v9 v10 v11 v12 v13 v14 v15 v16 v17 v18 v19 v20 v21 : Sl) (s : DS) : (S_law_k27 call w (st01 a b v4 v5 v6 v7 v8 v9 v10 v11 v12 v13 v14 v15 v16 v17 v18 v19 v20 v21) s).sat R01 := by
  have hbl : dataI (lstS [(pure (.none)), (lstS []), (lstS [(pure (.int 0)), (pure (.int 0))]), (tupS [(pure (.int 0))]), (lstS [(pure (.int 1)), (negS (pure (.int 1)))]), (lstS [(pure (.bool true))]), (pure (.str "1")), (binS .Mult (lstS [(pure (.int 1))]) (pure (.int 31))), (lstS [(pure (.int 1000001))])]) = (pure (badO.map id) : M (List D)) := by
    have m : binop .Mult (.list [.int 1]) (.int 31) = pure (.list (List.replicate 31 (.int 1))) := by kernel_rfl
    simp [lstS, tupS, sline, badO, m]
  have cm := compS_map (items := pure (badO.map id)) (bind := fun d => bindG (.one 19) (wipe (frz (st01 a b v4 v5 v6 v7 v8 v9 v10 v11 v12 v13 v14 v15 v16 v17 v18 v19 v20 v21) [0, 1, 2, 3, 4, 5, 6, 7, 8, 9, 10, 11, 12, 13, 14, 15, 16, 17, 18, 19, 20, 21]) [19]) d) (g := S_law_e26 call w) badO id (fun _ => malD) rfl (by decide) fun d hd => ⟨_, rfl, by
    simp [S_law_e26, st01, callS, hT.b5 d (.int 0) hd]⟩
  have ml : badO.map (fun _ => malD) = List.replicate 9 malD := rfl
  rw [ml] at cm
  have m9 : binop .Mult (.list [malD]) (.int 9) = pure (.list (List.replicate 9 malD)) := by kernel_rfl
  have q : eqD (.list (List.replicate 9 malD)) (.list (List.replicate 9 malD)) = pure true := by kernel_rfl
  unfold S_law_k27
  rw [hbl]
  generalize List.replicate 9 malD = L9 at *
  generalize badO.map id = B9 at *
  unfold malD at m9
  unfold st01 at cm ⊢
  simp at cm
  simp [cm, lstS, sline, m9, q]
  exact ⟨_, rfl⟩
theorem p28 (hT : Sp__law_told01 (call "_law_told")) {a b : List Int} (ha : IsDr a) (v4 v5 v6 v7 v8 v9 v10 v11 v12 v13 v14 v15 v16 v17 v18 v19 v20 v21 : Sl) {s : DS} (hs : OkS s) : (S_law_k28 call w (st01 a b v4 v5 v6 v7 v8 v9 v10 v11 v12 v13 v14 v15 v16 v17 v18 v19 v20 v21) s).sat R01 := by
  have hbl : dataI (lstS [(pure (.none)), (tupS [(pure (.int 2)), (pure (.int 4))]), (tupS [(negS (pure (.int 1))), (pure (.int 2))]), (tupS [(pure (.int 3)), (pure (.int 2))]), (tupS [(pure (.int 1)), (pure (.int 0))]), (pure (.int 1)), (pure (.str "1"))]) = (pure (badB8.map id) : M (List D)) := by
    simp [lstS, tupS, sline, badB8]
  simp only [S_law_k28, hbl, sFor_pure]
  rw [thenF_at]
  refine Res.sat.fl (forL_at id badB8 (fun _ σ s => ∃ v : Sl, σ = st01 a b v4 v5 v6 v7 v8 v9 v10 v11 v12 v13 v14 v15 v16 v17 v18 v v20 v21) (fun i d σ s hi ⟨v, e⟩ => ?_) ⟨v19, rfl⟩) fun σ s ⟨v, e⟩ => ?_
  · subst e
    have hm := List.mem_of_getElem? hi
    have e1 := hT.b11 a d ha hm
    have q : eqD malD malD = pure true := by kernel_rfl
    unfold malD at e1 q
    refine ⟨_, rfl, ?_⟩
    simp [S_law_b25, st01, callS, e1, q]
    all_goals exact ⟨_, rfl⟩
  · subst e
    exact p27 hT v4 v5 v6 v7 v8 v9 v10 v11 v12 v13 v14 v15 v16 v17 v18 v v20 v21 s
theorem p29 (hT : Sp__law_told01 (call "_law_told")) {a b : List Int} (ha : IsDr a) (v4 v5 v6 v7 v8 v9 v10 v11 v12 v13 v14 v15 v16 v17 v18 v19 v20 v21 : Sl) {s : DS} (hs : OkS s) : (S_law_k29 call w (st01 a b v4 v5 v6 v7 v8 v9 v10 v11 v12 v13 v14 v15 v16 v17 v18 v19 v20 v21) s).sat R01 := by
  have hbl : dataI (lstS [(negS (pure (.int 1))), (pure (.none)), (pure (.bool true)), (pure (.str "1")), (tupS [(pure (.int 1))]), (lstS [(pure (.int 2))])]) = (pure (badN.map id) : M (List D)) := by
    simp [lstS, tupS, sline, badN]
  simp only [S_law_k29, hbl, sFor_pure]
  rw [thenF_at]
  refine Res.sat.fl (forL_at id badN (fun _ σ s => OkS s ∧ ∃ v : Sl, σ = st01 a b v4 v5 v6 v7 v8 v9 v10 v11 v12 v13 v14 v15 v16 v17 v18 v v20 v21) (fun i d σ s hi ⟨hs, v, e⟩ => ?_) ⟨hs, v19, rfl⟩) fun σ s ⟨hs, v, e⟩ => ?_
  · subst e
    have hm := List.mem_of_getElem? hi
    have cm := compS_map (items := pure (([6, 7, 8, 9, 10] : List Int).map .int)) (bind := fun x => bindG (.one 22) (wipe (st01 a b v4 v5 v6 v7 v8 v9 v10 v11 v12 v13 v14 v15 v16 v17 v18 (some (d, false)) v20 v21) [22]) x) (g := S_law_e23 call w) ([6, 7, 8, 9, 10] : List Int) .int (fun _ => malD) rfl (by decide) fun i hi => ⟨_, rfl, by
      simp [S_law_e23, st01, callS, hT.bn a d i ha hm hi]⟩
    have ml : ([6, 7, 8, 9, 10] : List Int).map (fun _ => malD) = List.replicate 5 malD := rfl
    rw [ml] at cm
    have m5 : binop .Mult (.list [malD]) (.int 5) = pure (.list (List.replicate 5 malD)) := by kernel_rfl
    have q : eqD (.list (List.replicate 5 malD)) (.list (List.replicate 5 malD)) = pure true := by kernel_rfl
    have it : dataI (lstS [(pure (.int 6)), (pure (.int 7)), (pure (.int 8)), (pure (.int 9)), (pure (.int 10))]) = (pure (([6, 7, 8, 9, 10] : List Int).map .int) : M (List D)) := by simp [lstS, sline]
    generalize List.replicate 5 malD = L5 at *
    refine ⟨_, rfl, ?_⟩
    unfold S_law_b24
    rw [it]
    generalize ([6, 7, 8, 9, 10] : List Int).map PyData.int = B5 at *
    unfold malD at m5
    unfold st01 at cm ⊢
    simp at cm
    simp [cm, lstS, sline, m5, q]
    exact hs
  · subst e
    exact p28 hT ha v4 v5 v6 v7 v8 v9 v10 v11 v12 v13 v14 v15 v16 v17 v18 v v20 v21 hs
theorem ix_padB (n : Nat) (c : Int) (xs : List Int) (k : Nat) : ix (pad n c xs) (k : Int) = ix xs (k : Int) * c := by
  unfold pad ix
  rw [List.getD_eq_getElem?_getD, List.getD_eq_getElem?_getD, Int.toNat_natCast]
  by_cases h : k < xs.length
  · rw [List.getElem?_append_left (by simpa using h), List.getElem?_map, List.getElem?_eq_getElem h]
    rfl
  · rw [List.getElem?_append_right (by simpa using h), List.getElem?_eq_none (l := xs) (by omega), List.getElem?_replicate]
    split <;> simp
theorem sumR_cutN {n m : Nat} (f : Nat → Int) (h : ∀ i, n ≤ i → f i = 0) (hm : n ≤ m) : sumR m f = sumR n f := by
  obtain ⟨d, rfl⟩ : ∃ d, m = n + d := ⟨m - n, by omega⟩
  clear hm
  induction d with
  | zero => rfl
  | succ d ih => rw [← Nat.add_assoc, sumR_back, ih, h _ (by omega)]; omega
theorem ix_overB {xs : List Int} {i : Nat} (h : xs.length ≤ i) : ix xs (i : Int) = 0 := by
  unfold ix
  rw [List.getD_eq_getElem?_getD, Int.toNat_natCast, List.getElem?_eq_none h]
  rfl
theorem level_eq (a b : List Int) : (sumR (max a.length b.length) fun (k : Nat) => (1 + (k : Int)) * (ix (xr a b) k - ix (yr a b) k)) = exV a 0 * b.sum - exV b 0 * a.sum := by
  have e : ∀ (c : List Int) (m : Nat), c.length ≤ m → (sumR m fun (k : Nat) => (1 + (k : Int)) * ix c k) = exV c 0 := fun c m hm => by
    rw [sumR_cutN (n := c.length) _ (fun i hi => by rw [ix_overB hi, Int.mul_zero]) hm]
    unfold exV
    refine sumR_congr fun i hi => ?_
    rw [show max 0 ((i : Int) + 1 - 0) = 1 + (i : Int) by omega, Int.mul_comm]
  have e1 := e a (max a.length b.length) (by omega)
  have e2 := e b (max a.length b.length) (by omega)
  have h : (sumR (max a.length b.length) fun (k : Nat) => (1 + (k : Int)) * (ix (xr a b) k - ix (yr a b) k)) = sumR (max a.length b.length) fun (k : Nat) => b.sum * ((1 + (k : Int)) * ix a k) - a.sum * ((1 + (k : Int)) * ix b k) := sumR_congr fun k hk => by
    unfold xr yr
    rw [ix_padB, ix_padB]
    grind
  rw [h, sumR_sub, sumR_mul, sumR_mul, e1, e2, Int.mul_comm b.sum, Int.mul_comm a.sum]
theorem xr_len (a b : List Int) : (xr a b).length = max a.length b.length := by unfold xr pad; simp; omega
theorem yr_len (a b : List Int) : (yr a b).length = max a.length b.length := by unfold yr pad; simp; omega
theorem xr_bt {a b : List Int} (ha : IsDr a) (hb : IsDr b) {k : Nat} (h : k < max a.length b.length) : Bt 45 (ix (xr a b) k) ∧ Bt 45 (ix (yr a b) k) := by
  have g : ∀ c : List Int, IsDr c → Bt 20 (ix c k) := fun c hc => by
    by_cases h : k < c.length
    · exact ixB20 hc h
    · rw [ix_overB (by omega)]; exact Bt.of_lt (by decide) (by decide)
  unfold xr yr
  rw [ix_padB, ix_padB]
  exact ⟨(g a ha).mul hb.sumBt, (g b hb).mul ha.sumBt⟩
theorem p31 (h0 : Sp__law_says (call "_law_says")) (hT : Sp__law_told01 (call "_law_told")) {a b : List Int} (ha : IsDr a) (hb : IsDr b) (v4 v5 v6 v7 v8 v9 v10 v11 v12 v13 v14 v15 v18 v19 v20 v21 : Sl) {s : DS} (hs : OkS s) : Sa (S_law_k31 call w (st01 a b v4 v5 v6 v7 v8 v9 v10 v11 v12 v13 v14 v15 (some (lisD (xr a b), false)) (some (lisD (yr a b), false)) v18 v19 v20 v21) s) := by
  have la := ha.most
  have lb := hb.most
  have rl := xr_len a b
  have rl2 := yr_len a b
  have cm := compS_map (items := pure ((List.range (max a.length b.length)).map fun (i : Nat) => PyData.int (i : Int))) (bind := fun x => bindG (.one 11) (wipe (st01 a b v4 v5 v6 v7 v8 v9 v10 v11 v12 v13 v14 v15 (some (lisD (xr a b), false)) (some (lisD (yr a b), false)) v18 v19 v20 v21) [11]) x) (g := S_law_e22 call w) (List.range (max a.length b.length)) (fun (i : Nat) => PyData.int (i : Int)) (fun (k : Nat) => .int ((1 + (k : Int)) * (ix (xr a b) k - ix (yr a b) k))) rfl (sl (by simp; omega)) fun i hi => ⟨_, rfl, by
    have hi := List.mem_range.mp hi
    obtain ⟨b1, b2⟩ := xr_bt ha hb hi
    have g1 := getL_N (xs := xr a b) (i := i) (by omega)
    have g2 := getL_N (xs := yr a b) (i := i) (by omega)
    have m := bmul (Bt.of_lt (n := 20) (i := (i : Int) + 1) (by omega) (by omega)) (b1.sub b2)
    rw [Int.add_comm 1]
    simp [S_law_e22, st01, lisD, g1, g2, m]⟩
  have bs := bi_sum_map (fun (k : Nat) => (1 + (k : Int)) * (ix (xr a b) k - ix (yr a b) k)) (List.range (max a.length b.length))
  rw [show ((List.range (max a.length b.length)).map fun (k : Nat) => (1 + (k : Int)) * (ix (xr a b) k - ix (yr a b) k)).sum = exV a 0 * b.sum - exV b 0 * a.sum from level_eq a b] at bs
  have r1 := rangeN (n := max a.length b.length) (by omega)
  have e12 := hT.g12 a b ha hb
  have e13 := hT.g13 a b ha hb
  have e14 := h0 (decide (exV a 0 * b.sum = exV b 0 * a.sum)) (decide (exV a 0 * b.sum = exV b 0 * a.sum))
  simp only [beq_self_eq_true] at e14
  have dq : decide (exV a 0 * b.sum - exV b 0 * a.sum = 0) = decide (exV a 0 * b.sum = exV b 0 * a.sum) := by
    by_cases h : exV a 0 * b.sum = exV b 0 * a.sum
    · rw [decide_eq_true h, decide_eq_true (by omega)]
    · rw [decide_eq_false h, decide_eq_false (by omega)]
  have fT : ∀ xs : List Int, fine 63 (tupD xs) = true := fun xs => by unfold tupD; rw [fine_tuple]; exact all_map_int _ _
  have q : eqD (.tuple [tupD (xr a b), tupD (yr a b)]) (.tuple [tupD (xr a b), tupD (yr a b)]) = pure true := eqD_self (by rw [fine_tuple]; simp only [List.all_cons, List.all_nil, fT, Bool.and_true])
  have fin := fun v => p29 (w := w) hT ha (b := b) v4 v5 v6 v7 v8 v9 v10 v11 v12 v13 v14 v15 (some (lisD (xr a b), false)) (some (lisD (yr a b), false)) v v19 v20 v21 hs
  unfold st01 at cm fin ⊢
  have ln : (lisD (xr a b)) = .list ((xr a b).map .int) := rfl
  have ln2 : (lisD (yr a b)) = .list ((yr a b).map .int) := rfl
  have tn : tupD (xr a b) = .tuple ((xr a b).map .int) := rfl
  have tn2 : tupD (yr a b) = .tuple ((yr a b).map .int) := rfl
  rw [ln, ln2] at cm fin ⊢
  rw [tn, tn2] at e12 q
  have lx : ((xr a b).map PyData.int).length = max a.length b.length := by rw [List.length_map, rl]
  generalize hX : (xr a b).map PyData.int = X at *
  generalize hY : (yr a b).map PyData.int = Y at *
  generalize hML : max a.length b.length = ML at *
  generalize hE1 : exV a 0 * b.sum = E1 at *
  generalize hE2 : exV b 0 * a.sum = E2 at *
  refine ⟨?_⟩
  simp at cm r1
  have fin := fin (some (.bool (decide (E1 = E2)), false))
  simp [S_law_k31, biS, lx, iterS, r1, cm, bs, dq, S_law_k30, callS, e12, e13, e14, tupS, sline, q]
  exact fin
theorem p32 (h0 : Sp__law_says (call "_law_says")) (h1 : Sp__law_both (call "_law_both")) (hT : Sp__law_told01 (call "_law_told")) {a b : List Int} (ha : IsDr a) (hb : IsDr b) (v4 v5 v6 v7 v8 v9 v10 v11 v12 v13 v14 v15 v16 v17 v18 v19 v20 v21 : Sl) {s : DS} (hs : OkS s) : Sa (S_law_k32 call w (st01 a b v4 v5 v6 v7 v8 v9 v10 v11 v12 v13 v14 v15 v16 v17 v18 v19 v20 v21) s) := by
  have e := h1 a b ha hb
  have fin0 : Sa _ := @p31 call w h0 hT a b ha hb v4 v5 v6 v7 v8 v9 v10 v11 v12 v13 v14 v15 v18 v19 v20 v21 s hs
  have e2 : S_law_k32 call w (st01 a b v4 v5 v6 v7 v8 v9 v10 v11 v12 v13 v14 v15 v16 v17 v18 v19 v20 v21) s = S_law_k31 call w (st01 a b v4 v5 v6 v7 v8 v9 v10 v11 v12 v13 v14 v15 (some (lisD (xr a b), false)) (some (lisD (yr a b), false)) v18 v19 v20 v21) s := by
    unfold st01
    simp [S_law_k32, bd_at, stE_at, thenF_at, quiet_at, ifeS, tstS, cmp1, cmp2, binS, ixS, slS, optS, biS, callS, lstS, tupS, iterS, evsS_cons, asBool, asInt, sFor, sAsg, sIf, sRet, sExp, sTup, negS, notS, andS, orS, callF_eq, callS, e, setAll, lisD]
  rw [e2]
  exact fin0
theorem pw_hom (c n d : Int) : ∀ (xs : List Int) (p q : Int × Int) (k : Int), p.1 = k * q.1 → p.2 = k * q.2 → (xs.foldl (fun p x => ((p.1 + x * p.2) * (c * n), p.2 * (c * d))) p).1 = k * c ^ xs.length * (xs.foldl (fun p x => ((p.1 + x * p.2) * n, p.2 * d)) q).1 ∧ (xs.foldl (fun p x => ((p.1 + x * p.2) * (c * n), p.2 * (c * d))) p).2 = k * c ^ xs.length * (xs.foldl (fun p x => ((p.1 + x * p.2) * n, p.2 * d)) q).2
  | [], p, q, k, h1, h2 => by simp [h1, h2]
  | x :: xs, p, q, k, h1, h2 => by
    have ih := pw_hom c n d xs ((p.1 + x * p.2) * (c * n), p.2 * (c * d)) ((q.1 + x * q.2) * n, q.2 * d) (k * c) (by simp only [h1, h2]; grind) (by simp only [h2]; grind)
    rw [List.foldl_cons, List.foldl_cons, List.length_cons, Int.pow_succ, show k * (c ^ xs.length * c) = k * c * c ^ xs.length by grind]
    exact ih
theorem pw_low {n d : Int} (n0 : 0 ≤ n) (n1 : n ≤ d) (d0 : 0 < d) (a : List Int) (ha : IsDr a) : frD (pwF a n d).1 ((pwF a n d).2 * a.sum) = frD (pwF a (frN n d) (frM n d)).1 ((pwF a (frN n d) (frM n d)).2 * a.sum) ∧ 0 ≤ frN n d ∧ frN n d ≤ frM n d ∧ 0 < frM n d ∧ frM n d ≤ d ∧ Int.gcd (frN n d) (frM n d) = 1 := by
  obtain ⟨h1, h2, h3⟩ := fr_mulB (n := n) d0
  have hg := gcd_pos (n := n) (d := d) (by omega)
  have hgg : Int.gcd (frN n d) (frM n d) = 1 := by
    have e1 : frN n d = n / (Int.gcd n d : Int) := by unfold frN; rw [Int.sign_eq_one_of_pos d0, Int.one_mul]
    have e2 : frM n d = d / (Int.gcd n d : Int) := by
      unfold frM
      have : ((d.natAbs : Nat) : Int) = d := by omega
      rw [this]
    rw [e1, e2]
    exact Int.gcd_ediv_gcd_ediv_gcd (by omega)
  generalize frN n d = N at *
  generalize frM n d = M at *
  generalize hG : (Int.gcd n d : Int) = G at *
  have N0 : 0 ≤ N := by
    rcases Int.lt_or_le N 0 with h | h
    · have := Int.mul_neg_of_neg_of_pos h hg; omega
    · exact h
  have NM : N ≤ M := Int.le_of_mul_le_mul_right (by omega : N * G ≤ M * G) hg
  have Md : M ≤ d := by
    have := Int.mul_le_mul_of_nonneg_left (show (1 : Int) ≤ G by omega) (show 0 ≤ M by omega)
    omega
  have hs : (pwF a N M).2 = M ^ a.length := by unfold pwF; rw [pw_scale, List.length_reverse, Int.one_mul]
  have hh := pw_hom G N M a.reverse (0, 1) (0, 1) 1 (by simp) (by simp)
  have en : G * N = n := by rw [Int.mul_comm]; exact h1
  have ed : G * M = d := by rw [Int.mul_comm]; exact h2
  rw [en, ed, Int.one_mul, List.length_reverse] at hh
  have c0 : 0 < G ^ a.length := pow_pos' hg _
  have e : frD (pwF a n d).1 ((pwF a n d).2 * a.sum) = frD (pwF a N M).1 ((pwF a N M).2 * a.sum) := by
    have := fr_scale (c := G ^ a.length) (a := (pwF a N M).1) (b := (pwF a N M).2 * a.sum) c0 (Int.mul_pos (by rw [hs]; exact pow_pos' h3 _) ha.sum)
    unfold pwF at this ⊢
    rw [hh.1, hh.2, Int.mul_assoc (G ^ a.length)]
    exact this
  exact ⟨e, N0, NM, h3, Md, hgg⟩
theorem fr_fine (a b : Int) : fine 64 (frD a b) = true := by unfold frD; rw [fine_tuple]; simp
theorem p33 (h0 : Sp__law_says (call "_law_says")) (h1 : Sp__law_both (call "_law_both")) (h2 : Sp__law_low (call "_law_low")) (hT : Sp__law_told01 (call "_law_told")) {a b : List Int} (ha : IsDr a) (hb : IsDr b) {n d : Int} (n0 : 0 ≤ n) (n1 : n ≤ d) (d0 : 0 < d) (d1 : d ≤ 9) (v4 v7 v8 v9 v10 v11 v16 v17 v18 v19 v20 v21 : Sl) {s : DS} (hs : OkS s) : Sa (S_law_k33 call w (st01 a b v4 (some (.int a.sum, false)) (some (.int (a.length : Int), false)) v7 v8 v9 v10 v11 (some (.int d, false)) (some (.int n, false)) (some (.int (pwF a n d).1, false)) (some (.int (pwF a n d).2, false)) v16 v17 v18 v19 v20 v21) s) := by
  obtain ⟨e, N0, NM, M0, Md, hg⟩ := pw_low n0 n1 d0 a ha
  have la := ha.most
  have bd : Bt 4 d := Bt.of_lt (by omega) (by omega)
  have sc : (pwF a n d).2 = d ^ a.length := by unfold pwF; rw [pw_scale, List.length_reverse, Int.one_mul]
  have scb : Bt 121 (pwF a n d).2 := by
    rw [sc]
    have : ∀ k : Nat, Bt (4 * k + 1) (d ^ k) := fun k => by
      induction k with
      | zero => rw [Int.pow_zero]; exact Bt.of_lt (by decide) (by decide)
      | succ k ih => rw [Int.pow_succ]; exact (ih.mul bd).mono (by omega)
    exact (this a.length).mono (by omega)
  have sc0 : 0 < (pwF a n d).2 := by rw [sc]; exact pow_pos' d0 _
  have l1 := h2 n d d0 (bd.mono (by decide))
  have l2 := h2 (pwF a n d).1 ((pwF a n d).2 * a.sum) (Int.mul_pos sc0 ha.sum) ((scb.mul ha.sumBt).mono (by decide))
  have t := hT.g11 a (frN n d) (frM n d) ha N0 NM M0 (by omega) hg
  rw [← e] at t
  have t : call "_law_told" [.int 11, tupD a, frD n d] = _ := t
  have m := bmul scb ha.sumBt
  have q := eqD_self (fr_fine (pwF a n d).1 ((pwF a n d).2 * a.sum))
  have fin := (p32 (w := w) h0 h1 hT ha hb v4 (some (.int a.sum, false)) (some (.int (a.length : Int), false)) v7 v8 v9 v10 v11 (some (.int d, false)) (some (.int n, false)) (some (.int (pwF a n d).1, false)) (some (.int (pwF a n d).2, false)) v16 v17 v18 v19 v20 v21 hs).h
  unfold st01 at fin ⊢
  refine ⟨?_⟩
  generalize frD n d = fnd at *
  generalize (pwF a n d).1 = F at *
  generalize (pwF a n d).2 = S at *
  simp [S_law_k33, bd_at, stE_at, thenF_at, quiet_at, ifeS, tstS, cmp1, cmp2, binS, ixS, slS, optS, biS, callS, lstS, tupS, iterS, evsS_cons, asBool, asInt, sFor, sAsg, sIf, sRet, sExp, sTup, negS, notS, andS, orS, callF_eq, callS, l1, t, m, l2, q]
  exact fin
theorem rev_range (a : List Int) : a.reverse = (List.range a.length).map fun (k : Nat) => ix a ((a.length : Int) - 1 - (k : Int)) := by
  apply List.ext_getElem
  · simp
  · intro i h1 h2
    simp only [List.getElem_reverse, List.getElem_map, List.getElem_range]
    have hi : i < a.length := by simpa using h1
    unfold ix
    rw [show ((a.length : Int) - 1 - (i : Int)).toNat = a.length - 1 - i by omega, List.getD_eq_getElem?_getD, List.getElem?_eq_getElem (by omega)]
    rfl
theorem p34 (h0 : Sp__law_says (call "_law_says")) (h1 : Sp__law_both (call "_law_both")) (h2 : Sp__law_low (call "_law_low")) (hT : Sp__law_told01 (call "_law_told")) {a b : List Int} (ha : IsDr a) (hb : IsDr b) {n d : Int} (n0 : 0 ≤ n) (n1 : n ≤ d) (d0 : 0 < d) (d1 : d ≤ 9) (v4 v7 v8 v9 v10 v11 v16 v17 v18 v19 v20 v21 : Sl) {s : DS} (hs : OkS s) : Sa (S_law_k34 call w (st01 a b v4 (some (.int a.sum, false)) (some (.int (a.length : Int), false)) v7 v8 v9 v10 v11 (some (.int d, false)) (some (.int n, false)) (some (.int 0, false)) (some (.int 1, false)) v16 v17 v18 v19 v20 v21) s) := by
  have la := ha.most
  have bn : Bt 4 n := Bt.of_lt (by omega) (by omega)
  have bd : Bt 4 d := Bt.of_lt (by omega) (by omega)
  obtain ⟨v', l1⟩ := forL_foldP (enc := fun (i : Nat) => PyData.int (i : Int)) (bind := bindG (.one 11)) (b := S_law_b21 call w) (fun (p : Int × Int) (k : Nat) => ((p.1 + ix a ((a.length : Int) - 1 - (k : Int)) * p.2) * n, p.2 * d)) (fun p (v : Sl) => st01 a b v4 (some (.int a.sum, false)) (some (.int (a.length : Int), false)) v7 v8 v9 v10 v (some (.int d, false)) (some (.int n, false)) (some (.int p.1, false)) (some (.int p.2, false)) v16 v17 v18 v19 v20 v21) (fun ys p => ys.length ≤ 30 ∧ Bt (4 * (30 - ys.length) + 1) p.2 ∧ Bt (30 + 5 * (30 - ys.length)) p.1) (List.range a.length) (fun x ys hx p v ⟨i1, i2, i3⟩ => by
      have hx := List.mem_range.mp hx
      have hb := ha.bt (ix_mem (xs := a) (i := (a.length : Int) - 1 - (x : Int)) (by omega) (by omega))
      have g := getT_ix (xs := a) (i := (a.length : Int) - 1 - (x : Int)) (by omega) (by omega)
      simp only [List.length_cons] at i1 i2 i3
      have m1 := hb.mul i2
      have a1 := i3.add (m1.mono (m := 30 + 5 * (30 - (ys.length + 1))) (by omega))
      exact ⟨st01 a b v4 (some (.int a.sum, false)) (some (.int (a.length : Int), false)) v7 v8 v9 v10 (some (.int (x : Int), false)) (some (.int d, false)) (some (.int n, false)) (some (.int p.1, false)) (some (.int p.2, false)) v16 v17 v18 v19 v20 v21, rfl, ⟨some (.int (x : Int), false), by simp [S_law_b21, S_law_k20, st01, g, bmul hb i2, bmul a1 bn, bmul i2 bd]⟩, by omega, (i2.mul bd).mono (by omega), (a1.mul bn).mono (by omega)⟩) (0, 1) ⟨by rw [List.length_range]; omega, (Bt.of_lt (n := 1) (by decide) (by decide)).mono (by omega), (Bt.of_lt (n := 1) (by decide) (by decide)).mono (by omega)⟩ v11
  have er : (List.range a.length).foldl (fun (p : Int × Int) (k : Nat) => ((p.1 + ix a ((a.length : Int) - 1 - (k : Int)) * p.2) * n, p.2 * d)) (0, 1) = pwF a n d := by
    unfold pwF
    rw [rev_range, List.foldl_map]
  rw [er] at l1
  have r1 := rangeN (n := a.length) (by omega)
  have fin := (p33 (w := w) h0 h1 h2 hT ha hb n0 n1 d0 d1 v4 v7 v8 v9 v10 v' v16 v17 v18 v19 v20 v21 hs).h
  refine ⟨?_⟩
  unfold st01 at l1 fin ⊢
  simp at l1 r1
  simp [S_law_k34, iterS, r1, l1, bd_at, stE_at, thenF_at, quiet_at, ifeS, tstS, cmp1, cmp2, binS, ixS, slS, optS, biS, callS, lstS, tupS, iterS, evsS_cons, asBool, asInt, sFor, sAsg, sIf, sRet, sExp, sTup, negS, notS, andS, orS, callF_eq]
  exact fin
theorem p37 (ht : call "_law_take" = takeP) (h0 : Sp__law_says (call "_law_says")) (h1 : Sp__law_both (call "_law_both")) (h2 : Sp__law_low (call "_law_low")) (hT : Sp__law_told01 (call "_law_told")) {a b : List Int} (ha : IsDr a) (hb : IsDr b) (v4 v7 v8 v9 v10 v11 v12 v13 v14 v15 v16 v17 v18 v19 v20 v21 : Sl) {s : DS} (hs : OkS s) : Sa (S_law_k37 call w (st01 a b v4 (some (.int a.sum, false)) (some (.int (a.length : Int), false)) v7 v8 v9 v10 v11 v12 v13 v14 v15 v16 v17 v18 v19 v20 v21) s) := by
  have t0 := tv_lo (n := 9) (s := s) (by decide)
  have t1 := tv_hi (n := 9) (s := s) (by decide)
  have hs1 := OkS_ts (n := 9) hs
  have hd : 0 < 1 + tv 9 s + 1 := by omega
  have u0 := tv_lo (s := ts 9 s) hd
  have u1 := tv_hi (s := ts 9 s) hd
  have hs2 := OkS_ts (n := 1 + tv 9 s + 1) hs1
  have fin := p34 (w := w) h0 h1 h2 hT ha hb (n := tv (1 + tv 9 s + 1) (ts 9 s)) (d := 1 + tv 9 s) u0 (by omega) (by omega) (by omega) v4 v7 v8 v9 v10 v11 v16 v17 v18 v19 v20 v21 hs2
  have e2 : S_law_k37 call w (st01 a b v4 (some (.int a.sum, false)) (some (.int (a.length : Int), false)) v7 v8 v9 v10 v11 v12 v13 v14 v15 v16 v17 v18 v19 v20 v21) s = S_law_k34 call w (st01 a b v4 (some (.int a.sum, false)) (some (.int (a.length : Int), false)) v7 v8 v9 v10 v11 (some (.int (1 + tv 9 s), false)) (some (.int (tv (1 + tv 9 s + 1) (ts 9 s)), false)) (some (.int 0, false)) (some (.int 1, false)) v16 v17 v18 v19 v20 v21) (ts (1 + tv 9 s + 1) (ts 9 s)) := by
    unfold st01
    have tk := take_T ht hs1 hd (by omega)
    simp [S_law_k37, S_law_k36, S_law_k35, bd_at, stE_at, thenF_at, quiet_at, ifeS, tstS, cmp1, cmp2, binS, ixS, slS, optS, biS, callS, lstS, tupS, iterS, evsS_cons, asBool, asInt, sFor, sAsg, sIf, sRet, sExp, sTup, negS, notS, andS, orS, callF_eq, take_T ht hs, tk, tupS, sline, setAll]
  rw [e2]
  exact fin
theorem five_eq (a : List Int) (k : Int) : five.map (fun p => frD (p.2 a k) a.sum) = [frD (chV a k) a.sum, frD (abV a k) a.sum, frD (upV a k) a.sum, frD (exV a k) a.sum, frD (laV a k) a.sum] := rfl
theorem fr_fine63 (a b : Int) : fine 63 (frD a b) = true := by unfold frD; rw [fine_tuple]; simp
theorem k19 (h2 : Sp__law_low (call "_law_low")) (hT : Sp__law_told01 (call "_law_told")) {a b : List Int} (ha : IsDr a) {k : Int} (k0 : 0 ≤ k) (k1 : k ≤ 100) (v4 v7 v8 v9 v10 v12 v13 v14 v15 v16 v17 v18 v19 v20 v21 : Sl) (s : DS) : ∃ v : Sl, S_law_b19 call w (st01 a b v4 (some (.int a.sum, false)) (some (.int (a.length : Int), false)) v7 v8 v9 v10 (some (.int k, false)) v12 v13 v14 v15 v16 v17 v18 v19 v20 v21) s = .ok (.nx (st01 a b v4 (some (.int a.sum, false)) (some (.int (a.length : Int), false)) v7 v8 v9 v10 (some (.int k, false)) v12 v13 v14 v15 v16 v17 v18 v19 v20 v)) s := by
  have la := ha.most
  have sp := ha.sum
  have lw := fun n => h2 n a.sum sp (ha.sumBt.mono (by decide))
  have e1 : ∀ X : M D, (X = pure (.int (chV a k))) → X = pure (.int (chV a k)) := fun _ h => h
  have chE : (ifeS (cmp2 (pure (.int 1)) (pure (.int k)) (pure (.int (a.length : Int))) .LtE .LtE) (ixS (pure (tupD a)) (binS .Sub (pure (.int k)) (pure (.int 1)))) (pure (.int 0)) : M D) = pure (.int (chV a k)) := by
    by_cases c : 1 ≤ k
    · by_cases c2 : k ≤ a.length
      · have g := getT_ix (xs := a) (i := k - 1) (by omega) (by omega)
        have hv : chV a k = ix a (k - 1) := if_pos ⟨c, c2⟩
        simp [ifeS, c, c2, g, hv]
      · have hv : chV a k = 0 := if_neg fun z => c2 z.2
        simp [ifeS, c, c2, hv]
    · have hv : chV a k = 0 := if_neg fun z => c z.1
      simp [ifeS, c, hv]
  have abE : (biS "sum" [slS (pure (tupD a)) (some (biS "max" [(pure (.int 0)), (binS .Sub (pure (.int k)) (pure (.int 1)))])) none] : M D) = pure (.int (abV a k)) := by
    have hc := cut_from (a.map PyData.int) (k := max 0 (k - 1)) (by omega)
    have bs : bi "sum" [.tuple ((a.map PyData.int).drop (max 0 (k - 1)).toNat)] = pure (.int (a.drop (max 0 (k - 1)).toNat).sum) := by rw [← List.map_drop]; exact bi_sum_tup _
    have hm : abV a k = (a.drop (max 0 (k - 1)).toNat).sum := by unfold abV; rw [Int.max_comm]
    simp [biS, hc, bs, hm]
  have upE : (biS "sum" [slS (pure (tupD a)) none (some (pure (.int k)))] : M D) = pure (.int (upV a k)) := by
    have hc := cut_to (a.map PyData.int) (k := k) k0
    have bs : bi "sum" [.tuple ((a.map PyData.int).take k.toNat)] = pure (.int (a.take k.toNat).sum) := by rw [← List.map_take]; exact bi_sum_tup _
    simp [biS, hc, bs, upV]
  have r1 := rangeN (n := a.length) (by omega)
  have c13 : ∀ v21 : Sl, compS (pure ((List.range a.length).map fun (i : Nat) => PyData.int (i : Int))) (fun x => bindG (.one 23) (wipe (st01 a b v4 (some (.int a.sum, false)) (some (.int (a.length : Int), false)) v7 v8 v9 v10 (some (.int k, false)) v12 v13 v14 v15 v16 v17 v18 v19 v20 v21) [23]) x) (fun _ => pure true) (S_law_e13 call w) = pure (.list ((List.range a.length).map fun (i : Nat) => .int (ix a i * max 0 ((i : Int) + 1 - k)))) := fun v21 => by
    refine compS_map (List.range a.length) (fun (i : Nat) => PyData.int (i : Int)) (fun (i : Nat) => .int (ix a i * max 0 ((i : Int) + 1 - k))) rfl (sl (by simp; omega)) fun i hi => ⟨_, rfl, ?_⟩
    have hi := List.mem_range.mp hi
    have g := getT_N (xs := a) hi
    simp [S_law_e13, st01, biS, g, bmul (ixB20 ha hi) (Bt.of_lt (n := 20) (i := max 0 ((i : Int) + 1 - k)) (by omega) (by omega))]
  have c14 : ∀ v21 : Sl, compS (pure ((List.range a.length).map fun (i : Nat) => PyData.int (i : Int))) (fun x => bindG (.one 23) (wipe (st01 a b v4 (some (.int a.sum, false)) (some (.int (a.length : Int), false)) v7 v8 v9 v10 (some (.int k, false)) v12 v13 v14 v15 v16 v17 v18 v19 v20 v21) [23]) x) (fun _ => pure true) (S_law_e14 call w) = pure (.list ((List.range a.length).map fun (i : Nat) => .int (ix a i * max 0 (k - (i : Int) - 1)))) := fun v21 => by
    refine compS_map (List.range a.length) (fun (i : Nat) => PyData.int (i : Int)) (fun (i : Nat) => .int (ix a i * max 0 (k - (i : Int) - 1))) rfl (sl (by simp; omega)) fun i hi => ⟨_, rfl, ?_⟩
    have hi := List.mem_range.mp hi
    have g := getT_N (xs := a) hi
    simp [S_law_e14, st01, biS, g, bmul (ixB20 ha hi) (Bt.of_lt (n := 20) (i := max 0 (k - (i : Int) - 1)) (by omega) (by omega))]
  have s13 : bi "sum" [.list ((List.range a.length).map fun (i : Nat) => .int (ix a i * max 0 ((i : Int) + 1 - k)))] = pure (.int (exV a k)) := bi_sum_map (fun (i : Nat) => ix a i * max 0 ((i : Int) + 1 - k)) (List.range a.length)
  have s14 : bi "sum" [.list ((List.range a.length).map fun (i : Nat) => .int (ix a i * max 0 (k - (i : Int) - 1)))] = pure (.int (laV a k)) := bi_sum_map (fun (i : Nat) => ix a i * max 0 (k - (i : Int) - 1)) (List.range a.length)
  have c15 : ∀ v21 : Sl, compS (pure (five.map fun p => PyData.int p.1)) (fun x => bindG (.one 22) (wipe (st01 a b v4 (some (.int a.sum, false)) (some (.int (a.length : Int), false)) v7 v8 v9 v10 (some (.int k, false)) v12 v13 v14 v15 v16 v17 v18 v19 v20 v21) [22]) x) (fun _ => pure true) (S_law_e15 call w) = pure (.list (five.map fun p => frD (p.2 a k) a.sum)) := fun v21 => by
    refine compS_map five (fun p => PyData.int p.1) (fun p => frD (p.2 a k) a.sum) rfl (by decide) fun p hp => ⟨_, rfl, ?_⟩
    simp [S_law_e15, st01, callS, hT.gn a k p ha k0 (by omega) hp]
  have q : eqD (.list (five.map fun p => frD (p.2 a k) a.sum)) (.list (five.map fun p => frD (p.2 a k) a.sum)) = pure true := eqD_self (by rw [fine_list, List.all_map, List.all_eq_true]; exact fun p _ => fr_fine63 _ _)
  rw [five_eq] at q c15
  have it : dataI (lstS [(pure (.int 6)), (pure (.int 7)), (pure (.int 8)), (pure (.int 9)), (pure (.int 10))]) = (pure (five.map fun p => PyData.int p.1) : M (List D)) := by simp [lstS, sline, five]
  generalize five.map (fun p => PyData.int p.1) = F5 at *
  have l1 := lw (chV a k)
  have l2 := lw (abV a k)
  have l3 := lw (upV a k)
  have l4 := lw (exV a k)
  have l5 := lw (laV a k)
  have tD : tupD a = .tuple (a.map .int) := rfl
  have k16 : S_law_k16 call w (st01 a b v4 (some (.int a.sum, false)) (some (.int (a.length : Int), false)) v7 v8 v9 v10 (some (.int k, false)) v12 v13 v14 v15 v16 v17 v18 v19 v20 (some (.list [frD (chV a k) a.sum, frD (abV a k) a.sum, frD (upV a k) a.sum, frD (exV a k) a.sum, frD (laV a k) a.sum], true))) = pure (.nx (st01 a b v4 (some (.int a.sum, false)) (some (.int (a.length : Int), false)) v7 v8 v9 v10 (some (.int k, false)) v12 v13 v14 v15 v16 v17 v18 v19 v20 (some (.list [frD (chV a k) a.sum, frD (abV a k) a.sum, frD (upV a k) a.sum, frD (exV a k) a.sum, frD (laV a k) a.sum], true)))) := by
    have c15 := c15 (some (.list [frD (chV a k) a.sum, frD (abV a k) a.sum, frD (upV a k) a.sum, frD (exV a k) a.sum, frD (laV a k) a.sum], true))
    unfold S_law_k16
    rw [it]
    generalize frD (chV a k) a.sum = f1 at *
    generalize frD (abV a k) a.sum = f2 at *
    generalize frD (upV a k) a.sum = f3 at *
    generalize frD (exV a k) a.sum = f4 at *
    generalize frD (laV a k) a.sum = f5 at *
    unfold st01 at c15 ⊢
    simp at c15
    simp [c15, q]
  refine ⟨some (.list [frD (chV a k) a.sum, frD (abV a k) a.sum, frD (upV a k) a.sum, frD (exV a k) a.sum, frD (laV a k) a.sum], true), ?_⟩
  have c13 := c13 (some (.list [frD (chV a k) a.sum, frD (abV a k) a.sum, frD (upV a k) a.sum], true))
  have c14 := c14 (some (.list [frD (chV a k) a.sum, frD (abV a k) a.sum, frD (upV a k) a.sum, frD (exV a k) a.sum], true))
  generalize frD (chV a k) a.sum = f1 at *
  generalize frD (abV a k) a.sum = f2 at *
  generalize frD (upV a k) a.sum = f3 at *
  generalize frD (exV a k) a.sum = f4 at *
  generalize frD (laV a k) a.sum = f5 at *
  generalize hc1 : chV a k = c1 at *
  generalize hc2 : abV a k = c2 at *
  generalize hc3 : upV a k = c3 at *
  generalize hc4 : exV a k = c4 at *
  generalize hc5 : laV a k = c5 at *
  suffices h : S_law_b19 call w (st01 a b v4 (some (.int a.sum, false)) (some (.int (a.length : Int), false)) v7 v8 v9 v10 (some (.int k, false)) v12 v13 v14 v15 v16 v17 v18 v19 v20 v21) = pure (.nx (st01 a b v4 (some (.int a.sum, false)) (some (.int (a.length : Int), false)) v7 v8 v9 v10 (some (.int k, false)) v12 v13 v14 v15 v16 v17 v18 v19 v20 (some (.list [f1, f2, f3, f4, f5], true)))) by
    rw [h]; rfl
  have k17 : S_law_k17 call w (st01 a b v4 (some (.int a.sum, false)) (some (.int (a.length : Int), false)) v7 v8 v9 v10 (some (.int k, false)) v12 v13 v14 v15 v16 v17 v18 v19 v20 (some (.list [f1, f2, f3, f4], true))) = S_law_k16 call w (st01 a b v4 (some (.int a.sum, false)) (some (.int (a.length : Int), false)) v7 v8 v9 v10 (some (.int k, false)) v12 v13 v14 v15 v16 v17 v18 v19 v20 (some (.list [f1, f2, f3, f4, f5], true))) := by
    unfold st01 at c14 ⊢
    simp at c14 r1 s14
    simp [S_law_k17, iterS, r1, c14, biS, s14, callS, l5, sApp, ownI, sline]
  have k18 : S_law_k18 call w (st01 a b v4 (some (.int a.sum, false)) (some (.int (a.length : Int), false)) v7 v8 v9 v10 (some (.int k, false)) v12 v13 v14 v15 v16 v17 v18 v19 v20 (some (.list [f1, f2, f3], true))) = S_law_k17 call w (st01 a b v4 (some (.int a.sum, false)) (some (.int (a.length : Int), false)) v7 v8 v9 v10 (some (.int k, false)) v12 v13 v14 v15 v16 v17 v18 v19 v20 (some (.list [f1, f2, f3, f4], true))) := by
    unfold st01 at c13 ⊢
    simp at c13 r1 s13
    simp [S_law_k18, iterS, r1, c13, biS, s13, callS, l4, sApp, ownI, sline]
  have k19 : S_law_b19 call w (st01 a b v4 (some (.int a.sum, false)) (some (.int (a.length : Int), false)) v7 v8 v9 v10 (some (.int k, false)) v12 v13 v14 v15 v16 v17 v18 v19 v20 v21) = S_law_k18 call w (st01 a b v4 (some (.int a.sum, false)) (some (.int (a.length : Int), false)) v7 v8 v9 v10 (some (.int k, false)) v12 v13 v14 v15 v16 v17 v18 v19 v20 (some (.list [f1, f2, f3], true))) := by
    have key : S_law_b19 call w (st01 a b v4 (some (.int a.sum, false)) (some (.int (a.length : Int), false)) v7 v8 v9 v10 (some (.int k, false)) v12 v13 v14 v15 v16 v17 v18 v19 v20 v21) = thenF (sAsg (st01 a b v4 (some (.int a.sum, false)) (some (.int (a.length : Int), false)) v7 v8 v9 v10 (some (.int k, false)) v12 v13 v14 v15 v16 v17 v18 v19 v20 v21) (lstS [callS call "_law_low" [ifeS (cmp2 (pure (.int 1)) (pure (.int k)) (pure (.int (a.length : Int))) .LtE .LtE) (ixS (pure (tupD a)) (binS .Sub (pure (.int k)) (pure (.int 1)))) (pure (.int 0)), pure (.int a.sum)], callS call "_law_low" [biS "sum" [slS (pure (tupD a)) (some (biS "max" [(pure (.int 0)), (binS .Sub (pure (.int k)) (pure (.int 1)))])) none], pure (.int a.sum)], callS call "_law_low" [biS "sum" [slS (pure (tupD a)) none (some (pure (.int k)))], pure (.int a.sum)]]) 21 true) (S_law_k18 call w) := by
      kernel_rfl
    rw [key, chE, abE, upE]
    simp [callS, l1, l2, l3, lstS, sline, st01]
  rw [k19, k18, k17, k16]
theorem p38 (ht : call "_law_take" = takeP) (h0 : Sp__law_says (call "_law_says")) (h1 : Sp__law_both (call "_law_both")) (h2 : Sp__law_low (call "_law_low")) (hT : Sp__law_told01 (call "_law_told")) {a b : List Int} (ha : IsDr a) (hb : IsDr b) (v4 v7 v8 v9 v10 v11 v12 v13 v14 v15 v16 v17 v18 v19 v20 v21 : Sl) {s : DS} (hs : OkS s) : Sa (S_law_k38 call w (st01 a b v4 (some (.int a.sum, false)) (some (.int (a.length : Int), false)) v7 v8 v9 v10 v11 v12 v13 v14 v15 v16 v17 v18 v19 v20 v21) s) := by
  have la := ha.most
  have l1 := ha.one
  have hl : (0 : Int) < (a.length : Int) := by omega
  have t0 := tv_lo (s := s) hl
  have t1 := tv_hi (s := s) hl
  have hs1 := OkS_ts (n := (a.length : Int)) hs
  have tk := take_T ht hs hl (by omega)
  have lp := forL_at PyData.int (bind := bindG (.one 11)) (b := S_law_b19 call w) [0, 1, 1 + tv a.length s, (a.length : Int), (a.length : Int) + 1, (a.length : Int) + 9] (fun _ σ s => OkS s ∧ ∃ w11 w21 : Sl, σ = st01 a b v4 (some (.int a.sum, false)) (some (.int (a.length : Int), false)) v7 v8 v9 v10 w11 v12 v13 v14 v15 v16 v17 v18 v19 v20 w21) (fun i k σ s hi ⟨hs, w11, w21, e⟩ => by
    subst e
    have hk : 0 ≤ k ∧ k ≤ 100 := by
      have := List.mem_of_getElem? hi
      simp only [List.mem_cons, List.mem_nil_iff, or_false] at this
      omega
    obtain ⟨v, e⟩ := k19 (call := call) (w := w) h2 hT (b := b) ha hk.1 hk.2 v4 v7 v8 v9 v10 v12 v13 v14 v15 v16 v17 v18 v19 v20 w21 s
    refine ⟨st01 a b v4 (some (.int a.sum, false)) (some (.int (a.length : Int), false)) v7 v8 v9 v10 (some (.int k, false)) v12 v13 v14 v15 v16 v17 v18 v19 v20 w21, rfl, ?_⟩
    rw [e]
    exact ⟨hs, _, _, rfl⟩) (σ := st01 a b v4 (some (.int a.sum, false)) (some (.int (a.length : Int), false)) v7 v8 v9 v10 v11 v12 v13 v14 v15 v16 v17 v18 v19 v20 v21) (s := ts a.length s) ⟨hs1, _, _, rfl⟩
  obtain ⟨fl, s3, e3, hI⟩ := lp.ex
  cases fl with
  | nx σ' =>
    obtain ⟨hs3, w11, w21, rfl⟩ := hI
    have e2 : S_law_k38 call w (st01 a b v4 (some (.int a.sum, false)) (some (.int (a.length : Int), false)) v7 v8 v9 v10 v11 v12 v13 v14 v15 v16 v17 v18 v19 v20 v21) s = S_law_k37 call w (st01 a b v4 (some (.int a.sum, false)) (some (.int (a.length : Int), false)) v7 v8 v9 v10 w11 v12 v13 v14 v15 v16 v17 v18 v19 v20 w21) s3 := by
      unfold st01 at e3 ⊢
      simp at e3
      have io : ∀ ds : List D, itemsOf (.list ds) = some ds := fun _ => rfl
      simp [S_law_k38, bd_at, stE_at, thenF_at, quiet_at, ifeS, tstS, cmp1, cmp2, binS, ixS, slS, optS, biS, callS, lstS, tupS, iterS, evsS_cons, asBool, asInt, sFor, sAsg, sIf, sRet, sExp, sTup, negS, notS, andS, orS, callF_eq, lstS, sline, dataI, io, tk, e3]
    rw [e2]
    exact p37 ht h0 h1 h2 hT ha hb v4 v7 v8 v9 v10 w11 v12 v13 v14 v15 v16 v17 v18 v19 v20 w21 hs3
  | _ => exact hI.elim
theorem min_shift {l : List Nat} (hs : l.Pairwise (· < ·)) (h : l ≠ []) : bi "min" [.list (l.map fun (k : Nat) => PyData.int ((k : Int) + 1))] = pure (.int (1 + (l.headD 0 : Int))) := by
  have e := bi_minN (l := l.map (· + 1)) (by
    rw [List.pairwise_map]
    exact hs.imp fun h => by omega) (by simpa using h)
  rw [List.map_map] at e
  have e2 : ((fun (k : Nat) => PyData.int (k : Int)) ∘ (· + 1)) = fun (k : Nat) => PyData.int ((k : Int) + 1) := by funext k; simp
  rw [e2] at e
  have hh : (((l.map (· + 1)).headD 0 : Nat) : Int) = 1 + ((l.headD 0 : Nat) : Int) := by
    cases l with
    | nil => exact absurd rfl h
    | cons x xs =>
      show ((x + 1 : Nat) : Int) = 1 + (x : Int)
      omega
  rw [e, hh]
theorem p39 (ht : call "_law_take" = takeP) (h0 : Sp__law_says (call "_law_says")) (h1 : Sp__law_both (call "_law_both")) (h2 : Sp__law_low (call "_law_low")) (hT : Sp__law_told01 (call "_law_told")) {a b : List Int} (ha : IsDr a) (hb : IsDr b) (v4 v7 v8 v9 v10 v11 v12 v13 v14 v15 v16 v17 v18 v19 v20 v21 : Sl) {s : DS} (hs : OkS s) : Sa (S_law_k39 call w (st01 a b v4 (some (.int a.sum, false)) (some (.int (a.length : Int), false)) v7 v8 v9 v10 v11 v12 v13 v14 v15 v16 v17 v18 v19 v20 v21) s) := by
  have la := ha.most
  have r1 := rangeN (n := a.length) (by omega)
  have e3 := hT.g3 a (.int 0) ha
  have e4 := hT.g4 a (.int 0) ha
  have m3 := min_shift (l := poL a) (filter_sorted _ _) (poL_ne ha)
  have m4 := min_shift (l := meL a) (filter_sorted _ _) (me_mid ha).2
  have sb : ∀ k : Nat, k ≤ 30 → Bt 26 (a.take k).sum := fun k _ => (Bt.sum (n := 20) (m := 5) (by rw [List.length_take]; omega) fun x hx => ha.bt (List.mem_of_mem_take hx)).mono (by omega)
  have c3 := compS_filter (items := pure ((List.range a.length).map fun (i : Nat) => PyData.int (i : Int))) (bind := fun x => bindG (.one 11) (wipe (st01 a b v4 (some (.int a.sum, false)) (some (.int (a.length : Int), false)) v7 v8 v9 v10 v11 v12 v13 v14 v15 v16 v17 v18 v19 v20 v21) [11]) x) (f := S_law_i9 call w) (g := S_law_e10 call w) (List.range a.length) (fun (i : Nat) => PyData.int (i : Int)) (fun (i : Nat) => .int ((i : Int) + 1)) (fun k => decide (0 < ix a k)) rfl (sl (by simp; omega)) fun i hi => ⟨_, rfl, by
    have g := getT_N (xs := a) (List.mem_range.mp hi)
    simp [S_law_i9, st01, g], fun _ => by simp [S_law_e10, st01]⟩
  have c4 := compS_filter (items := pure ((List.range a.length).map fun (i : Nat) => PyData.int (i : Int))) (bind := fun x => bindG (.one 11) (wipe (st01 a b v4 (some (.int a.sum, false)) (some (.int (a.length : Int), false)) v7 v8 v9 v10 v11 v12 v13 v14 v15 v16 v17 v18 v19 v20 v21) [11]) x) (f := S_law_i11 call w) (g := S_law_e12 call w) (List.range a.length) (fun (i : Nat) => PyData.int (i : Int)) (fun (i : Nat) => .int ((i : Int) + 1)) (fun k => decide (a.sum ≤ 2 * (a.take (k + 1)).sum)) rfl (sl (by simp; omega)) fun i hi => ⟨_, rfl, by
    have hi := List.mem_range.mp hi
    have hc := cut_to (a.map PyData.int) (k := (i : Int) + 1) (by omega)
    rw [show ((i : Int) + 1).toNat = i + 1 by omega] at hc
    have bs : bi "sum" [.tuple ((a.map PyData.int).take (i + 1))] = pure (.int (a.take (i + 1)).sum) := by rw [← List.map_take]; exact bi_sum_tup _
    have m := bmul (Bt.of_lt (n := 2) (i := 2) (by decide) (by decide)) (sb (i + 1) (by omega))
    simp [S_law_i11, st01, biS, hc, bs, m], fun _ => by simp [S_law_e12, st01]⟩
  rw [show ((List.range a.length).filter fun (k : Nat) => decide (0 < ix a k)) = poL a from rfl] at c3
  rw [show ((List.range a.length).filter fun (k : Nat) => decide (a.sum ≤ 2 * (a.take (k + 1)).sum)) = meL a from rfl] at c4
  have fin := p38 (w := w) ht h0 h1 h2 hT ha hb v4 v7 v8 v9 v10 v11 v12 v13 v14 v15 v16 v17 v18 v19 v20 v21 hs
  have e2 : S_law_k39 call w (st01 a b v4 (some (.int a.sum, false)) (some (.int (a.length : Int), false)) v7 v8 v9 v10 v11 v12 v13 v14 v15 v16 v17 v18 v19 v20 v21) s = S_law_k38 call w (st01 a b v4 (some (.int a.sum, false)) (some (.int (a.length : Int), false)) v7 v8 v9 v10 v11 v12 v13 v14 v15 v16 v17 v18 v19 v20 v21) s := by
    unfold st01 at c3 c4 ⊢
    generalize (1 + (((poL a).headD 0 : Nat) : Int)) = P1 at *
    generalize (1 + (((meL a).headD 0 : Nat) : Int)) = P2 at *
    generalize (poL a).map (fun (k : Nat) => PyData.int ((k : Int) + 1)) = LP at *
    generalize (meL a).map (fun (k : Nat) => PyData.int ((k : Int) + 1)) = LM at *
    simp at c3 c4 r1
    simp [S_law_k39, callS, e3, e4, iterS, r1, biS, c3, c4, m3, m4]
  rw [e2]
  exact fin
theorem p41 (ht : call "_law_take" = takeP) (h0 : Sp__law_says (call "_law_says")) (h1 : Sp__law_both (call "_law_both")) (h2 : Sp__law_low (call "_law_low")) (hT : Sp__law_told01 (call "_law_told")) {a b : List Int} (ha : IsDr a) (hb : IsDr b) (v4 v7 v8 v9 v10 v11 v12 v13 v14 v15 v16 v17 v18 v19 v20 v21 : Sl) {s : DS} (hs : OkS s) : Sa (S_law_k41 call w (st01 a b v4 (some (.int a.sum, false)) (some (.int (a.length : Int), false)) v7 v8 v9 v10 v11 v12 v13 v14 v15 v16 v17 v18 v19 v20 v21) s) := by
  have la := ha.most
  have r1 := rangeN (n := a.length) (by omega)
  have c7 := compS_map (items := pure ((List.range a.length).map fun (i : Nat) => PyData.int (i : Int))) (bind := fun x => bindG (.one 11) (wipe (st01 a b v4 (some (.int a.sum, false)) (some (.int (a.length : Int), false)) v7 v8 v9 v10 v11 v12 v13 v14 v15 v16 v17 v18 v19 v20 v21) [11]) x) (g := S_law_e7 call w) (List.range a.length) (fun (i : Nat) => PyData.int (i : Int)) (fun (i : Nat) => .int (((i : Int) + 1) * ix a i)) rfl (sl (by simp; omega)) fun i hi => ⟨_, rfl, by
    have hi := List.mem_range.mp hi
    have g := getT_N (xs := a) hi
    simp [S_law_e7, st01, g, bmul (Bt.of_lt (n := 20) (i := (i : Int) + 1) (by omega) (by omega)) (ixB20 ha hi)]⟩
  have c8 := compS_map (items := pure ((List.range a.length).map fun (i : Nat) => PyData.int (i : Int))) (bind := fun x => bindG (.one 11) (wipe (st01 a b v4 (some (.int a.sum, false)) (some (.int (a.length : Int), false)) v7 v8 v9 v10 v11 v12 v13 v14 v15 v16 v17 v18 v19 v20 v21) [11]) x) (g := S_law_e8 call w) (List.range a.length) (fun (i : Nat) => PyData.int (i : Int)) (fun (i : Nat) => .int (((i : Int) + 1) * ((i : Int) + 1) * ix a i)) rfl (sl (by simp; omega)) fun i hi => ⟨_, rfl, by
    have hi := List.mem_range.mp hi
    have g := getT_N (xs := a) hi
    have b1 := Bt.of_lt (n := 20) (i := (i : Int) + 1) (by omega) (by omega)
    simp [S_law_e8, st01, g, bmul b1 b1, bmul (b1.mul b1) (ixB20 ha hi)]⟩
  have s7 : bi "sum" [.list ((List.range a.length).map fun (i : Nat) => .int (((i : Int) + 1) * ix a i))] = pure (.int (m1V a)) := by
    have h : ((List.range a.length).map fun (i : Nat) => ((i : Int) + 1) * ix a i).sum = m1V a := sumR_congr fun i _ => by rw [Int.mul_comm, Int.add_comm]
    rw [bi_sum_map, h]
  have s8 : bi "sum" [.list ((List.range a.length).map fun (i : Nat) => .int (((i : Int) + 1) * ((i : Int) + 1) * ix a i))] = pure (.int (m2V a)) := by
    have h : ((List.range a.length).map fun (i : Nat) => ((i : Int) + 1) * ((i : Int) + 1) * ix a i).sum = m2V a := sumR_congr fun i _ => by grind
    rw [bi_sum_map, h]
  have ex1 : exV a 0 = m1V a := sumR_congr fun i _ => by rw [show max 0 ((i : Int) + 1 - 0) = 1 + (i : Int) by omega]
  have sp := ha.sum
  have sB := ha.sumBt
  have e1 := hT.g1 a (.int 0) ha
  have e2' := hT.g2 a (.int 0) ha
  rw [ex1] at e1
  have l1 := h2 (m1V a) a.sum sp (sB.mono (by decide))
  have l2 := h2 (m2V a * a.sum - m1V a * m1V a) (a.sum * a.sum) (Int.mul_pos sp sp) ((sB.mul sB).mono (by decide))
  have p1 := bmul (m2_bt ha) sB
  have p2 := bmul (m1_bt ha) (m1_bt ha)
  have p3 := bmul sB sB
  have q1 := eqD_self (fr_fine (m1V a) a.sum)
  have q2 := eqD_self (fr_fine (m2V a * a.sum - m1V a * m1V a) (a.sum * a.sum))
  have fin := p39 (w := w) ht h0 h1 h2 hT ha hb v4 v7 v8 (some (.int (m1V a), false)) (some (.int (m2V a), false)) v11 v12 v13 v14 v15 v16 v17 v18 v19 v20 v21 hs
  have e2 : S_law_k41 call w (st01 a b v4 (some (.int a.sum, false)) (some (.int (a.length : Int), false)) v7 v8 v9 v10 v11 v12 v13 v14 v15 v16 v17 v18 v19 v20 v21) s = S_law_k39 call w (st01 a b v4 (some (.int a.sum, false)) (some (.int (a.length : Int), false)) v7 v8 (some (.int (m1V a), false)) (some (.int (m2V a), false)) v11 v12 v13 v14 v15 v16 v17 v18 v19 v20 v21) s := by
    unfold st01 at c7 c8 ⊢
    generalize m1V a = M1 at *
    generalize m2V a = M2 at *
    generalize frD M1 a.sum = f1 at *
    generalize frD (M2 * a.sum - M1 * M1) (a.sum * a.sum) = f2 at *
    simp at c7 c8 r1 s7 s8
    simp [S_law_k41, iterS, r1, biS, c7, c8, s7, s8, S_law_k40, callS, e1, e2', l1, l2, p1, p2, p3, q1, q2]
  rw [e2]
  exact fin
theorem p42 (ht : call "_law_take" = takeP) (h0 : Sp__law_says (call "_law_says")) (h1 : Sp__law_both (call "_law_both")) (h2 : Sp__law_low (call "_law_low")) (hT : Sp__law_told01 (call "_law_told")) {a b : List Int} (ha : IsDr a) (hb : IsDr b) (v4 v8 v9 v10 v11 v12 v13 v14 v15 v16 v17 v18 v19 v20 v21 : Sl) {s : DS} (hs : OkS s) : Sa (S_law_k42 call w (st01 a b v4 (some (.int a.sum, false)) (some (.int (a.length : Int), false)) (some (.int (plG a), false)) v8 v9 v10 v11 v12 v13 v14 v15 v16 v17 v18 v19 v20 v21) s) := by
  have la := ha.most
  obtain ⟨p0, p1⟩ := plG_ok ha
  have hb' : Bt 20 (plG a) := Bt.of_lt (by omega) (by omega)
  have cm := compS_map (items := pure (a.map .int)) (bind := fun x => bindG (.one 8) (wipe (st01 a b v4 (some (.int a.sum, false)) (some (.int (a.length : Int), false)) (some (.int (plG a), false)) v8 v9 v10 v11 v12 v13 v14 v15 v16 v17 v18 v19 v20 v21) [8]) x) (g := S_law_e6 call w) a .int (fun x => .int (x / plG a)) rfl (sl (by omega)) fun x hx => ⟨_, rfl, by simp [S_law_e6, st01, bdiv p0 hb']⟩
  have e0 := hT.g0 a (.int 0) ha
  have tD : tupD (a.map fun x => x / plG a) = .tuple (a.map fun x => PyData.int (x / plG a)) := by
    unfold tupD
    rw [List.map_map]
    rfl
  have q := eqD_self (d := tupD (a.map fun x => x / plG a)) (by unfold tupD; rw [fine_tuple]; exact all_map_int _ _)
  rw [tD] at e0 q
  have fin := p41 (w := w) ht h0 h1 h2 hT ha hb v4 (some (.int (plG a), false)) v8 v9 v10 v11 v12 v13 v14 v15 v16 v17 v18 v19 v20 v21 hs
  have e2 : S_law_k42 call w (st01 a b v4 (some (.int a.sum, false)) (some (.int (a.length : Int), false)) (some (.int (plG a), false)) v8 v9 v10 v11 v12 v13 v14 v15 v16 v17 v18 v19 v20 v21) s = S_law_k41 call w (st01 a b v4 (some (.int a.sum, false)) (some (.int (a.length : Int), false)) (some (.int (plG a), false)) v8 v9 v10 v11 v12 v13 v14 v15 v16 v17 v18 v19 v20 v21) s := by
    unfold st01 at cm ⊢
    generalize (a.map fun x => PyData.int (x / plG a)) = LQ at *
    simp at cm
    simp [S_law_k42, callS, e0, biS, cm, q]
  rw [e2]
  exact fin
theorem pl_if : ∀ (xs : List Int) (g : Int), 0 ≤ g → (∀ x ∈ xs, 0 ≤ x) → xs.foldl (fun g x => if 0 < x then (Int.gcd g x : Int) else g) g = xs.foldl (fun g x => (Int.gcd g x : Int)) g
  | [], g, _, _ => rfl
  | x :: xs, g, hg, hx => by
    have x0 := hx x (by simp)
    have e : (if 0 < x then (Int.gcd g x : Int) else g) = (Int.gcd g x : Int) := by
      by_cases h : 0 < x
      · rw [if_pos h]
      · rw [if_neg h]
        have : x = 0 := by omega
        subst this
        rw [Int.gcd_zero_right]
        omega
    rw [List.foldl_cons, List.foldl_cons, e]
    exact pl_if xs _ (Int.natCast_nonneg _) fun y hy => hx y (by simp [hy])
theorem p45 (ht : call "_law_take" = takeP) (h0 : Sp__law_says (call "_law_says")) (h1 : Sp__law_both (call "_law_both")) (h2 : Sp__law_low (call "_law_low")) (h3 : Sp__law_gcd (call "_law_gcd")) (hT : Sp__law_told01 (call "_law_told")) {a b : List Int} (ha : IsDr a) (hb : IsDr b) (v4 v5 v6 v7 v8 v9 v10 v11 v12 v13 v14 v15 v16 v17 v18 v19 v20 v21 : Sl) {s : DS} (hs : OkS s) : Sa (S_law_k45 call w (st01 a b v4 v5 v6 v7 v8 v9 v10 v11 v12 v13 v14 v15 v16 v17 v18 v19 v20 v21) s) := by
  have la := ha.most
  obtain ⟨v', l1, _⟩ := forL_foldG (enc := PyData.int) (bind := bindG (.one 8)) (b := S_law_b5 call w) (fun g x => if 0 < x then (Int.gcd g x : Int) else g) (fun g (v : Sl) => st01 a b v4 (some (.int a.sum, false)) (some (.int (a.length : Int), false)) (some (.int g, false)) v v9 v10 v11 v12 v13 v14 v15 v16 v17 v18 v19 v20 v21) (fun g => 0 ≤ g) a (fun x hx g v hg => ⟨st01 a b v4 (some (.int a.sum, false)) (some (.int (a.length : Int), false)) (some (.int g, false)) (some (.int x, false)) v9 v10 v11 v12 v13 v14 v15 v16 v17 v18 v19 v20 v21, rfl, ⟨some (.int x, false), by
    by_cases h : 0 < x
    · have e := h3 g x hg (by omega)
      simp [S_law_b5, st01, callS, h, e, ifeS]
    · simp [S_law_b5, st01, h, ifeS]⟩, by
    by_cases h : 0 < x
    · rw [if_pos h]; exact Int.natCast_nonneg _
    · rw [if_neg h]; exact hg⟩) 0 (by decide) v8
  rw [pl_if a 0 (by decide) fun x hx => (ha.wt x hx).1] at l1
  have er : a.foldl (fun g x => (Int.gcd g x : Int)) 0 = plG a := rfl
  rw [er] at l1
  have fin := p42 (w := w) ht h0 h1 h2 hT ha hb v4 v' v9 v10 v11 v12 v13 v14 v15 v16 v17 v18 v19 v20 v21 hs
  have e2 : S_law_k45 call w (st01 a b v4 v5 v6 v7 v8 v9 v10 v11 v12 v13 v14 v15 v16 v17 v18 v19 v20 v21) = S_law_k42 call w (st01 a b v4 (some (.int a.sum, false)) (some (.int (a.length : Int), false)) (some (.int (plG a), false)) v' v9 v10 v11 v12 v13 v14 v15 v16 v17 v18 v19 v20 v21) := by
    unfold st01 at l1 ⊢
    try simp at l1
    simp [S_law_k45, tupS, sline, biS, S_law_k44, S_law_k43, l1]
  rw [e2]
  exact fin
def I01 (a b : List Int) (σ : St) (s : DS) : Prop := OkS s ∧ ∃ v4 v20 : Sl, σ = st01 a b v4 none none none none none none none none none none none none none none none v20 none
def ten : List Int := [0, 1, 2, 3, 4, 6, 7, 8, 9, 10]
theorem b4step (h0 : Sp__law_says (call "_law_says")) (h1 : Sp_is_draw (call "is_draw")) (h2 : Sp__law_is_draw (call "_law_is_draw")) (h3 : Sp__law_bent (call "_law_bent")) (hT : Sp__law_told01 (call "_law_told")) {a b : List Int} (ha : IsDr a) (hb : IsDr b) (v4 v20 : Sl) {s : DS} (hs : OkS s) : SatQ (S_law_b4 call w (st01 a b v4 none none none none none none none none none none none none none none none v20 none) s) (NC (I01 a b)) := by
  obtain ⟨y, s1, e1, hy, hs1⟩ := (h3 a s hs ha.one ha.most).ex
  have d1 := h1 y hy
  have d2 := h2 y hy
  have hend : I01 a b (st01 a b v4 none none none none none none none none none none none none none none none (some (y, false)) none) s1 := ⟨hs1, _, _, rfl⟩
  cases hc : isDraw y with
  | true =>
    rw [hc] at d1 d2
    have e := h0 true true
    refine ⟨?_⟩
    have e2 : S_law_b4 call w (st01 a b v4 none none none none none none none none none none none none none none none v20 none) s = .ok (.nx (st01 a b v4 none none none none none none none none none none none none none none none (some (y, false)) none)) s1 := by
      unfold st01
      simp at e
      simp [S_law_b4, bd_at, stE_at, thenF_at, quiet_at, ifeS, tstS, cmp1, cmp2, binS, ixS, slS, optS, biS, callS, lstS, tupS, iterS, evsS_cons, asBool, asInt, sFor, sAsg, sIf, sRet, sExp, sTup, negS, notS, andS, orS, callF_eq, callS, e1, S_law_k3, d1, d2, e, S_law_k2, andS, S_law_k1]
    rw [e2]
    exact hend
  | false =>
    rw [hc] at d1 d2
    have e := h0 false false
    have cm := compS_map (items := pure (ten.map .int)) (bind := fun x => bindG (.one 22) (wipe (st01 a b v4 none none none none none none none none none none none none none none none (some (y, false)) none) [22]) x) (g := S_law_e0 call w) ten .int (fun _ => malD) rfl (by decide) fun i hi => ⟨_, rfl, by
      have : i ∈ ([0, 1, 2, 3, 4, 6, 7, 8, 9, 10, 11, 12, 13] : List Int) := by
        simp only [ten, List.mem_cons, List.mem_nil_iff, or_false] at hi ⊢
        omega
      simp [S_law_e0, st01, callS, hT.by1 y (.int 1) i hy hc this]⟩
    have it : dataI (lstS [(pure (.int 0)), (pure (.int 1)), (pure (.int 2)), (pure (.int 3)), (pure (.int 4)), (pure (.int 6)), (pure (.int 7)), (pure (.int 8)), (pure (.int 9)), (pure (.int 10))]) = (pure (ten.map .int) : M (List D)) := by simp [lstS, sline, ten]
    have ml : ten.map (fun _ => malD) = List.replicate 10 malD := rfl
    rw [ml] at cm
    have m10 : binop .Mult (.list [malD]) (.int 10) = pure (.list (List.replicate 10 malD)) := by kernel_rfl
    have q10 : eqD (.list (List.replicate 10 malD)) (.list (List.replicate 10 malD)) = pure true := by kernel_rfl
    have m3 : binop .Mult (.list [malD]) (.int 3) = pure (.list [malD, malD, malD]) := by kernel_rfl
    have q3 : eqD (.list [malD, malD, malD]) (.list [malD, malD, malD]) = pure true := by kernel_rfl
    have t11 := hT.by1 y (.tuple [.int 1, .int 2]) 11 hy hc (by decide)
    have t12 := hT.by1 y (tupD b) 12 hy hc (by decide)
    have t13 := hT.by2 b y 13 hb hy hc (by decide)
    generalize List.replicate 10 malD = L10 at *
    generalize ten.map PyData.int = T10 at *
    have k1 : S_law_k1 call w (st01 a b v4 none none none none none none none none none none none none none none none (some (y, false)) none) = pure (.nx (st01 a b v4 none none none none none none none none none none none none none none none (some (y, false)) none)) := by
      unfold malD at m3 q3 t11 t12 t13
      unfold st01
      simp [S_law_k1, callS, d2, andS, lstS, tupS, sline, t11, t12, t13, m3, q3]
    have k2 : S_law_k2 call w (st01 a b v4 none none none none none none none none none none none none none none none (some (y, false)) none) = S_law_k1 call w (st01 a b v4 none none none none none none none none none none none none none none none (some (y, false)) none) := by
      unfold S_law_k2
      rw [it]
      unfold malD at m10
      unfold st01 at cm ⊢
      simp at cm
      simp [callS, d2, andS, cm, lstS, sline, m10, q10]
    have e2 : S_law_b4 call w (st01 a b v4 none none none none none none none none none none none none none none none v20 none) s = S_law_k2 call w (st01 a b v4 none none none none none none none none none none none none none none none (some (y, false)) none) s1 := by
      unfold st01
      simp at e
      simp [S_law_b4, bd_at, stE_at, thenF_at, quiet_at, ifeS, tstS, cmp1, cmp2, binS, ixS, slS, optS, biS, callS, lstS, tupS, iterS, evsS_cons, asBool, asInt, sFor, sAsg, sIf, sRet, sExp, sTup, negS, notS, andS, orS, callF_eq, callS, e1, S_law_k3, d1, d2, e]
    rw [k2, k1] at e2
    refine ⟨?_⟩
    rw [e2]
    exact hend
theorem run_law (ht : call "_law_take" = takeP) (h0 : Sp__law_says (call "_law_says")) (h1 : Sp__law_both (call "_law_both")) (h2 : Sp__law_low (call "_law_low")) (h3 : Sp__law_gcd (call "_law_gcd")) (hT : Sp__law_told01 (call "_law_told")) (h4 : Sp_is_draw (call "is_draw")) (h5 : Sp__law_is_draw (call "_law_is_draw")) (h6 : Sp__law_bent (call "_law_bent")) (h7 : Sp__law_pair2 (call "_law_pair"))
    {s : DS} (hs : OkS s) : (S_law call w (startL 24) s).sat fun fl _ => ∃ o, fl = .ret (.bool true) o := by
  have t0 := tv_lo (n := 3) (s := s) (by decide)
  have t1 := tv_hi (n := 3) (s := s) (by decide)
  have hs1 := OkS_ts (n := 3) hs
  have u0 := tv_lo (n := 2) (s := ts 3 s) (by decide)
  have u1 := tv_hi (n := 2) (s := ts 3 s) (by decide)
  have hs2 := OkS_ts (n := 2) hs1
  obtain ⟨n, hn, n1, n2⟩ : ∃ m : Int, sel [.int 9, .int 9, .int 28] (tv 3 s) = .int m ∧ 1 ≤ m ∧ m ≤ 28 := sel_all (P := fun d => ∃ m : Int, d = .int m ∧ 1 ≤ m ∧ m ≤ 28) t0 (by simpa using t1) (by simp)
  obtain ⟨m, hm, m1, m2⟩ : ∃ m : Int, sel [.int 50, .int 240000] (tv 2 (ts 3 s)) = .int m ∧ 9 ≤ m ∧ m ≤ 250000 := sel_all (P := fun d => ∃ m : Int, d = .int m ∧ 9 ≤ m ∧ m ≤ 250000) u0 (by simpa using u1) (by simp)
  obtain ⟨d, s3, e3, a, b, rfl, ha, hb, hla, hlb, hs3⟩ := (h7 n m _ hs2 n1 n2 m1 m2).ex
  have la := ha.most
  have x0 := tv_lo (n := 3) (s := s3) (by decide)
  have x1 := tv_hi (n := 3) (s := s3) (by decide)
  have hs4 := OkS_ts (n := 3) hs3
  have d4 := h4 (tupD a) (by simp)
  rw [ha.is] at d4
  have e5 := hT.g5 a (tv 3 s3).toNat (.int 0) ha
  have mz : binop .Mult (.list [.int 0]) (.int (tv 3 s3)) = pure (.list (List.replicate (tv 3 s3).toNat (.int 0))) := by
    rw [binop_mulL (by omega) (by omega)]
    try simp
  have ad : binop .Add (.list (a.map .int)) (.list (List.replicate (tv 3 s3).toNat (.int 0))) = pure (.list (a.map .int ++ List.replicate (tv 3 s3).toNat (.int 0))) := binop_addL (sl (by simp; omega))
  have q := eqD_self (d := tupD a) (by unfold tupD; rw [fine_tuple]; exact all_map_int _ _)
  have lp := forL_at (fun (i : Nat) => PyData.int (i : Int)) (bind := bindG (.one 4)) (b := S_law_b4 call w) (List.range 6) (fun _ => I01 a b) (fun i k σ s hi ⟨hs, v4, v20, e⟩ => by
    subst e
    refine ⟨st01 a b (some (.int (k : Int), false)) none none none none none none none none none none none none none none none v20 none, rfl, (b4step h0 h4 h5 h6 hT ha hb _ v20 hs).h⟩) (σ := st01 a b none none none none none none none none none none none none none none none none none none) (s := ts 3 s3) ⟨hs4, none, none, rfl⟩
  have r6 := rangeN (n := 6) (by decide)
  obtain ⟨fl, s5, e6, hI⟩ := lp.ex
  cases fl with
  | nx σ' =>
    obtain ⟨hs5, v4, v20, rfl⟩ := hI
    have fin := p45 (w := w) ht h0 h1 h2 h3 hT ha hb v4 none none none none none none none none none none none none none none none v20 none hs5
    have e2 : S_law call w (startL 24) s = S_law_k45 call w (st01 a b v4 none none none none none none none none none none none none none none none v20 none) s5 := by
      unfold st01 at e6 ⊢
      simp at e6 r6
      simp [S_law, startL, bd_at, stE_at, thenF_at, quiet_at, ifeS, tstS, cmp1, cmp2, binS, ixS, slS, optS, biS, callS, lstS, tupS, iterS, evsS_cons, asBool, asInt, sFor, sAsg, sIf, sRet, sExp, sTup, negS, notS, andS, orS, callF_eq, lstS, sline, take_T ht hs, take_T ht hs1, getL_sel t0, t1, getL_sel u0, u1, hn, hm, e3, setAll, S_law_k47, callS, d4, biS, take_T ht hs3, mz, ad, e5, q, S_law_k46, iterS, r6, e6]
    rw [e2]
    exact fin.h
  | _ => exact hI.elim
end
end Py

set_option Elab.async false
set_option linter.all false
set_option maxRecDepth 100000
namespace Py
open PySem
open PySem.Spec PyProof.Rows L2
section
variable {K : PySem.W.Frag} {mg : Str → Option Value} {h : Heap}
/-- a def of the top -/
structure DefIn (K : PySem.W.Frag) (x : Str) (st : Stmt) (nm : Str := x) : Prop where
  ex : ∃ (f : Addr) (oc : Value) (od an : Option Addr) (osl : Array (Option Value)) (kV doc pm cdv ct : Value), PySem.W.nsIn K mainGlobals x = some (some (.ref f)) ∧ K.lookup f = some ⟨oc, od, .func (PySem.W.fnOf nm nm (defArgs st) (defBody st) (defScope st) .none kV doc pm an cdv ct), osl⟩ ∧ PySem.W.codeIn K cdv nm = true ∧ PySem.W.keepIn K (.ref f) = true
theorem def_mk {x nm : Str} {st : Stmt} {f : Addr} {oc : Value} {od an : Option Addr} {osl : Array (Option Value)} {kV doc pm cdv ct : Value} (a : PySem.W.nsIn K mainGlobals x = some (some (.ref f))) (l : K.lookup f = some ⟨oc, od, .func (PySem.W.fnOf nm nm (defArgs st) (defBody st) (defScope st) .none kV doc pm an cdv ct), osl⟩)
    (c : PySem.W.codeIn K cdv nm = true) (k : PySem.W.keepIn K (.ref f) = true) : DefIn K x st nm := ⟨f, oc, od, an, osl, kV, doc, pm, cdv, ct, a, l, c, k⟩
theorem DefIn.fn {x nm : Str} {st : Stmt} (d : DefIn K x st nm) (X : K.In h) (G : h.Ns mainGlobals mg) (ps : List Str) (hb : ∀ (kV doc pm : Value) (an : Option Addr) (cdv ct : Value) (us : List Value), us.length = ps.length → bindArgs (PySem.W.fnOf nm nm (defArgs st) (defBody st) (defScope st) .none kV doc pm an cdv ct) ⟨us, []⟩ = pure (ps.zip us)) :
    ∃ f fd, L2.Fun K nm nm st f fd ∧ mg x = some (.ref f) ∧ Binds K fd ps [] := by
  obtain ⟨f, oc, od, an, osl, kV, doc, pm, cdv, ct, a, l, c, k⟩ := d.ex
  have F := fun_mk l c k
  exact ⟨f, _, F, PySem.W.mg_of X G a, F.binds hb⟩
/-- an error class of the top that keeps its reason -/
def RefIn (K : PySem.W.Frag) (C : Addr) (file : Str) : Prop := ∀ prog : Program, ((prog.main.file : Str) == file) = true → (prog.main.scope.names.lookup ("super" : Str)).isSome = false → ∃ fI, PySem.RefX.RefTxt prog K C fI
theorem ref_mk {C fI cda cc N : Addr} {nm q : Str} {bs bm : List Value} {sn : List Str} {sub : List Value} {ab : Bool} {col : Option Bool} {dd : Option Addr} {k0 k1 k2 k3 k5 : Option Value} {oc doc pm ct ccl cl : Value} {od an cdd cld : Option Addr} {osl ccs csl : Array (Option Value)} {p1 p2 a1 a2 a3 a4 a5 a6 q1 q2 q3 q4 : Pos} {vs : Array Value} {file : Str} {tf : Tok}
    (xL : K.lookup C = some (PySem.excClassObj nm q C N bs bm true sn sub ab col dd k0 k1 k2 k3 k5 "ValueError.__new__")) (hbm : PySem.HandSPX.refsVE bm = true)
    (sup : PySem.W.ks_superIn K C C "__init__" = some (some (.builtin "ValueError.__init__")))
    (sa : PySem.W.findIn K (.ref C) "__setattr__" = some (some (.builtin "object.__setattr__"))) (ga : PySem.W.findIn K (.ref C) "__getattribute__" = some (some (.builtin "BaseException.__getattribute__"))) (gg : PySem.W.findIn K (.ref C) "__getattr__" = some none) (noN : PySem.W.findIn K (.ref C) "reason" = some none)
    (iC : PySem.W.findIn K (.ref C) "__init__" = some (some (.ref fI))) (tC : PySem.W.typeIn K (.ref fI) = some (.type "function")) (kC : PySem.W.keepIn K (.ref C) = true) (exC : PySem.W.subIn K (.ref C) (.type "BaseException") = some true) (veC : PySem.W.subIn K (.ref C) (.type "ValueError") = some true)
    (mC : PySem.W.mroIn K C (.ref C) = some true) (tyC : PySem.W.typeIn K (.ref C) = some (.type "type")) (hdC : PySem.W.hasDictIn K C = true) (any : PySem.W.nsIn K cStatics "thirdparty.any" = some none) (sg : PySem.W.nsIn K mainGlobals "super" = some none)
    (l1 : K.lookup fI = some ⟨oc, od, .func (PySem.W.ksFn "__init__" "Refused.__init__" (PySem.RefX.iA p1 p2) (PySem.RefX.iB a1 a2 a3 a4 a5 a6 q1 q2 q3 q4) PySem.RefX.rS .none .none doc pm an (.ref cda) ct cc), osl⟩) (c1 : PySem.W.codeIn K (.ref cda) "Refused.__init__" = true)
    (l2 : K.lookup cda = some ⟨ccl, cdd, .fields vs, ccs⟩) (hv : vs[2]? = some (.str file tf)) (l3 : K.lookup cc = some ⟨cl, cld, .cell (some (.ref C)), csl⟩)
    (hev : ∀ env : Env, ∃ pl, eval (.Call (.Attribute (.Call (.Name "super" a1) [] [] a2) "__init__" a3) [.Name "reason" a4] [] a5) env = (do
        let ov ← attributeBase (.Call (.Name "super" a1) [] [] a2) "__init__" env (eval (.Call (.Name "super" a1) [] [] a2) env)
        standAt a3.atName
        let (f, first) ← holding [ov] (getMethod ov "__init__" pl)
        callWith a5 f first (backTo a5 (starEach [.Name "reason" a4] env)) [])) : RefIn K C file := fun prog hf hs =>
  ⟨fI, ⟨⟨nm, q, N, bs, bm, sn, sub, ab, col, dd, k0, k1, k2, k3, k5, xL, hbm⟩, sup, sa, ga, gg, noN, iC, tC, kC, exC, veC, mC, by unfold PySem.W.clsIn; rw [xL]; rfl, tyC, hdC, any, sg, hs,
    ⟨oc, od, doc, pm, an, cda, cc, ct, osl, p1, p2, a1, a2, a3, a4, a5, a6, q1, q2, q3, q4, ccl, cl, cdd, cld, ccs, csl, vs, file, tf, l1, c1, l2, hv, hf, l3, hev⟩⟩⟩
/-- an exception class of the top -/
structure ExRn (K : PySem.W.Frag) (c : Str) (C : Addr) : Prop where
  a : PySem.W.nsIn K mainGlobals c = some (some (.ref C))
  k : PySem.W.keepIn K (.ref C) = true
  t : PySem.W.typeIn K (.ref C) = some (.type "type")
  e : ExcC K C
structure ExIn (K : PySem.W.Frag) (c : Str) (C : Addr) : Prop where
  a : PySem.W.nsIn K mainGlobals c = some (some (.ref C))
  x : PySem.W.excIn K C [.type "ValueError", .type "Exception", .type "BaseException", .type "object"] "ValueError.__new__" = true
  k : PySem.W.keepIn K (.ref C) = true
  t : PySem.W.typeIn K (.ref C) = some (.type "type")
  e : ExcC K C
theorem kit_ref {t : Value} {C : Addr} (hd : PySem.W.hasDictIn K C = true) (ht : PySem.W.typeIn K (.ref C) = some (.type "type")) (h4 : PySem.W.subIn K t (.ref C) = some true) : PySem.W.kitOne K t (.ref C) = some true := by
  unfold PySem.W.kitOne
  split
  · rfl
  · obtain ⟨cd, hc, _⟩ := PySem.W.any_some hd
    have e2 : ((PySem.W.clsIn K C).isSome && PySem.W.typeIn K (.ref C) == some (.type "type")) = true := by rw [hc, ht] <;> rfl
    show (if _ then _ else none) = _
    rw [if_pos e2]
    exact h4
theorem kit_ty' {t : Value} {T : String} (hm : PySem.W.kitMeta T = true) (h4 : PySem.W.subIn K t (.type T) = some true) : PySem.W.kitOne K t (.type T) = some true := by
  unfold PySem.W.kitOne
  split
  · rfl
  · show (if _ then _ else none) = _
    rw [if_pos hm]
    exact h4
theorem lookup_mem {α : Type} {x : Str} {l : List (Str × α)} {a : α} (h : l.lookup x = some a) : (x, a) ∈ l := by
  induction l with
  | nil => cases h
  | cons p l ih =>
    obtain ⟨y, b⟩ := p
    rw [List.lookup_cons] at h
    split at h
    · rename_i e
      have e := eq_of_beq e
      subst e
      cases h
      exact List.mem_cons_self ..
    · exact List.mem_cons_of_mem _ (ih h)
theorem lookup_mem2 {α : Type} {x : Str × Str} {l : List ((Str × Str) × α)} {a : α} (h : l.lookup x = some a) : (x, a) ∈ l := by
  induction l with
  | nil => cases h
  | cons p l ih =>
    obtain ⟨y, b⟩ := p
    rw [List.lookup_cons] at h
    split at h
    · rename_i e
      have e := eq_of_beq e
      subst e
      cases h
      exact List.mem_cons_self ..
    · exact List.mem_cons_of_mem _ (ih h)
end
mutual
/-- a written constant of the top -/
def ItIn (K : PySem.W.Frag) : D → Value → Prop
  | .int i, v => ∃ t, v = .int i t
  | .str i, v => ∃ t, v = .str i t
  | .bool b, v => v = .bool b
  | .none, v => v = .none
  | .tuple ds, v => ∃ (a : Addr) (od : Option Addr) (its : Array Value) (n : Nat) (sl : Array (Option Value)), v = .ref a ∧ K.lookup a = some ⟨.type "tuple", od, .seq its n, sl⟩ ∧ its.size ≤ sizeLine ∧ ItsIn K ds its.toList
  | .list _, _ => False
  | .dict _, _ => False
def ItsIn (K : PySem.W.Frag) : List D → List Value → Prop
  | [], us => us = []
  | d :: ds, us => ∃ u vs, us = u :: vs ∧ ItIn K d u ∧ ItsIn K ds vs
end
mutual
theorem ItIn.rp {U : Wd} : ∀ (d : D) (u : Value), ItIn U.K d u → ∃ v, RelV v u ∧ ∀ ow H, Rp U ow H d v
  | .int i, u, h => by
    unfold ItIn at h
    obtain ⟨t, rfl⟩ := h
    exact ⟨.int i, ⟨t, rfl⟩, fun _ _ => Rp.int⟩
  | .str i, u, h => by
    unfold ItIn at h
    obtain ⟨t, rfl⟩ := h
    exact ⟨.str i, ⟨t, rfl⟩, fun _ _ => Rp.str⟩
  | .bool b, u, h => by
    unfold ItIn at h
    subst h
    exact ⟨.bl b, rfl, fun _ _ => Rp.bool⟩
  | .none, u, h => by
    unfold ItIn at h
    subst h
    exact ⟨.non, rfl, fun _ _ => Rp.none⟩
  | .tuple ds, u, h => by
    unfold ItIn at h
    obtain ⟨a, od, its, n, sl, rfl, l, hs, r⟩ := h
    obtain ⟨xs, r1, r2⟩ := ItsIn.rp ds its.toList r
    refine ⟨.ref a, rfl, fun ow H => ?_⟩
    unfold Rp
    exact ⟨a, xs, rfl, .inr ⟨_, its, n, l, rfl, rfl, hs, r1⟩, r2 ow H⟩
  | .list _, u, h => by
    unfold ItIn at h
    exact h.elim
  | .dict _, u, h => by
    unfold ItIn at h
    exact h.elim
theorem ItsIn.rp {U : Wd} : ∀ (ds : List D) (us : List Value), ItsIn U.K ds us → ∃ xs, Vals xs us ∧ ∀ ow H, RpL U ow H ds xs
  | [], us, h => by
    unfold ItsIn at h
    subst h
    exact ⟨[], .nil, fun _ _ => RpL.nil⟩
  | d :: ds, us, h => by
    unfold ItsIn at h
    obtain ⟨u, vs, rfl, h1, h2⟩ := h
    obtain ⟨v, r1, r2⟩ := ItIn.rp d u h1
    obtain ⟨xs, r3, r4⟩ := ItsIn.rp ds vs h2
    exact ⟨v :: xs, .cons r1 r3, fun ow H => RpL.cons (r2 ow H) (r4 ow H)⟩
end
/-- the entries of a written dict -/
def EsIn (K : PySem.W.Frag) (P : Params) : List (D × D) → List DictEntry → Prop
  | [], es => es = []
  | p :: r, es => ∃ (z : Str) (t : Tok) (e : DictEntry) (es' : List DictEntry), es = e :: es' ∧ p.1 = .str z ∧ e.key = .str z t ∧ e.hash = PyData.keyHash P z ∧ ItIn K p.2 e.val ∧ EsIn K P r es'
/-- a written dict of the top -/
def DcIn (K : PySem.W.Frag) (P : Params) (kvs : List (D × D)) (v : Value) : Prop := ∃ (a : Addr) (es : Array DictEntry) (n : Nat), v = .ref a ∧ K.lookup a = some ⟨.type "dict", none, .dict es n, #[]⟩ ∧ (a == sysModules) = false ∧ EsIn K P kvs es.toList
theorem EsIn.rp {U : Wd} : ∀ (kvs : List (D × D)) (es : List DictEntry), EsIn U.K U.w.params kvs es → PySem.W.KeysLit U.w.params es ∧ (es.any (·.refKey)) = false ∧ ∃ xs : List (Key × V), (∀ ow H, RpD U ow H kvs xs) ∧ (∀ p ∈ xs, ∃ z : Str, p.1 = .inr z) ∧
    ∀ z : Str, RelO (valV xs (.inr z)) ((es.find? (·.key.isStr z)).map (·.val))
  | [], es, h => by
    unfold EsIn at h
    subst h
    refine ⟨trivial, rfl, [], fun _ _ => ?_, fun p hp => ?_, fun z => trivial⟩
    · unfold RpD
      rfl
    · exact absurd hp List.not_mem_nil
  | p :: r, es, h => by
    unfold EsIn at h
    obtain ⟨z, t, e, es', rfl, h1, h2, h3, h4, h5⟩ := h
    obtain ⟨k1, k2, xs, k3, k4, k5⟩ := EsIn.rp r es' h5
    obtain ⟨x, r1, r2⟩ := ItIn.rp (U := U) p.2 e.val h4
    refine ⟨⟨⟨z, t, h2, h3⟩, k1⟩, ?_, (.inr z, x) :: xs, fun ow H => ?_, fun q hq => ?_, fun y => ?_⟩
    · rw [List.any_cons, k2, Bool.or_false]
      show DictEntry.refKey e = false
      unfold DictEntry.refKey
      rw [h2]
    · unfold RpD
      exact ⟨.inr z, x, xs, rfl, by rw [h1]; rfl, r2 ow H, k3 ow H⟩
    · rcases List.mem_cons.mp hq with rfl | hq
      · exact ⟨z, rfl⟩
      · exact k4 q hq
    · by_cases hz : z = y
      · subst hz
        have e1 : (e.key.isStr z) = true := by
          rw [h2]
          show (z == z) = true
          simp
        rw [List.find?_cons_of_pos (p := fun d : DictEntry => d.key.isStr z) e1]
        unfold valV
        rw [List.find?_cons_of_pos (by simp)]
        exact r1
      · have e1 : ¬ (e.key.isStr y) = true := by
          rw [h2]
          show ¬ (z == y) = true
          intro c
          exact hz (eq_of_beq c)
        rw [List.find?_cons_of_neg (p := fun d : DictEntry => d.key.isStr y) e1]
        unfold valV
        rw [List.find?_cons_of_neg (by
          simp only [decide_eq_true_eq]
          intro c
          exact hz (Sum.inr.inj c))]
        exact k5 y
theorem DcIn.rp {U : Wd} {kvs : List (D × D)} {u : Value} (h : DcIn U.K U.w.params kvs u) : ∃ v, RelV v u ∧ ∀ ow H, Rp U ow H (.dict kvs) v := by
  obtain ⟨a, es, n, rfl, l, hs, r⟩ := h
  obtain ⟨k1, k2, xs, k3, k4, k5⟩ := EsIn.rp kvs es.toList r
  refine ⟨.ref a, rfl, fun ow H => ?_⟩
  unfold Rp
  refine .inr ⟨a, xs, rfl, .inr ⟨⟨es, n, ⟨l, k1, hs⟩⟩, fun z => ?_, k4⟩, k3 ow H⟩
  refine ⟨(es.toList.find? (·.key.isStr z)).map (·.val), ?_, k5 z⟩
  unfold PySem.W.nsIn
  rw [l]
  dsimp only
  cases es.toList.find? (·.key.isStr z) with
  | some e => rfl
  | none => rw [k2]; rfl
theorem esN {K : PySem.W.Frag} {P : Params} : EsIn K P [] [] := by unfold EsIn; rfl
theorem esC {K : PySem.W.Frag} {P : Params} {z : Str} {t : Tok} {d : D} {u : Value} {r : List (D × D)} {es : List DictEntry} {h : Int} (hh : h = PyData.keyHash P z) (i : ItIn K d u) (q : EsIn K P r es) : EsIn K P ((.str z, d) :: r) (⟨h, .str z t, u⟩ :: es) := by
  unfold EsIn
  exact ⟨z, t, ⟨h, .str z t, u⟩, es, rfl, rfl, rfl, hh, i, q⟩
theorem dc_mk {K : PySem.W.Frag} {P : Params} {x : Str} {kvs : List (D × D)} {a : Addr} {es : List DictEntry} {n : Nat} (b : PySem.W.nsIn K mainGlobals x = some (some (.ref a))) (l : K.lookup a = some ⟨.type "dict", none, .dict es.toArray n, #[]⟩) (hs : (a == sysModules) = false) (q : EsIn K P kvs es) : ∃ u, PySem.W.nsIn K mainGlobals x = some (some u) ∧ DcIn K P kvs u :=
  ⟨.ref a, b, a, es.toArray, n, rfl, l, hs, by simpa using q⟩
theorem itI {K : PySem.W.Frag} {i : Int} {t : Tok} : ItIn K (.int i) (.int i t) := by unfold ItIn; exact ⟨t, rfl⟩
theorem itS {K : PySem.W.Frag} {i : Str} {t : Tok} : ItIn K (.str i) (.str i t) := by unfold ItIn; exact ⟨t, rfl⟩
theorem itT {K : PySem.W.Frag} {ds : List D} {a : Addr} {od : Option Addr} {its : List Value} {n : Nat} {sl : Array (Option Value)} (l : K.lookup a = some ⟨.type "tuple", od, .seq its.toArray n, sl⟩) (r : ItsIn K ds its) (hs : its.length ≤ 1000) : ItIn K (.tuple ds) (.ref a) := by
  unfold ItIn
  exact ⟨a, od, its.toArray, n, sl, rfl, l, by simpa using Nat.le_trans hs (by decide), r⟩
theorem itN {K : PySem.W.Frag} : ItsIn K [] [] := by unfold ItsIn; rfl
theorem itC {K : PySem.W.Frag} {d : D} {ds : List D} {u : Value} {us : List Value} (h : ItIn K d u) (r : ItsIn K ds us) : ItsIn K (d :: ds) (u :: us) := by unfold ItsIn; exact ⟨u, us, rfl, h, r⟩
theorem cst_mk {K : PySem.W.Frag} {x : Str} {d : D} {u : Value} (a : PySem.W.nsIn K mainGlobals x = some (some u)) (i : ItIn K d u) : ∃ u, PySem.W.nsIn K mainGlobals x = some (some u) ∧ ItIn K d u := ⟨u, a, i⟩
end Py

set_option Elab.async false
set_option linter.all false
set_option maxRecDepth 100000
namespace Py
open PySem
open PySem.Spec L2
set_option maxHeartbeats 4000000
def top (i : Nat) : Stmt := PySem.Challenge.pw_drawnhigher_k01_draws.main.body.getD i (.Pass ⟨0, 0, 0, 0⟩)
def F_is_whole : Fd := ⟨["value"], ["value"], defScope (top 4), defBody (top 4), ⟨false, false⟩⟩
def F_common : Fd := ⟨["a", "b"], ["a", "b"], defScope (top 5), defBody (top 5), ⟨false, false⟩⟩
def F_lowest : Fd := ⟨["n", "d"], ["n", "d", "g"], defScope (top 6), defBody (top 6), ⟨false, false⟩⟩
def F_is_ratio : Fd := ⟨["value"], ["value"], defScope (top 7), defBody (top 7), ⟨false, false⟩⟩
def F_is_draw : Fd := ⟨["value"], ["value", "item"], defScope (top 11), defBody (top 11), ⟨false, false⟩⟩
def F_check_draw : Fd := ⟨["value"], ["value"], defScope (top 12), defBody (top 12), ⟨false, false⟩⟩
def F_check_number : Fd := ⟨["value"], ["value"], defScope (top 13), defBody (top 13), ⟨false, false⟩⟩
def F_draw_of : Fd := ⟨["weights"], ["weights", "found"], defScope (top 14), defBody (top 14), ⟨false, false⟩⟩
def F_plain : Fd := ⟨["draw"], ["draw", "part", "item"], defScope (top 15), defBody (top 15), ⟨false, false⟩⟩
def F_chance : Fd := ⟨["draw", "number"], ["draw", "number"], defScope (top 16), defBody (top 16), ⟨false, false⟩⟩
def F_above : Fd := ⟨["draw", "number"], ["draw", "number"], defScope (top 17), defBody (top 17), ⟨false, false⟩⟩
def F_upto : Fd := ⟨["draw", "number"], ["draw", "number"], defScope (top 18), defBody (top 18), ⟨false, false⟩⟩
def F_excess : Fd := ⟨["draw", "number"], ["draw", "number", "k", "item"], defScope (top 19), defBody (top 19), ⟨false, false⟩⟩
def F_lack : Fd := ⟨["draw", "number"], ["draw", "number", "k", "item"], defScope (top 20), defBody (top 20), ⟨false, false⟩⟩
def F_mean : Fd := ⟨["draw"], ["draw"], defScope (top 21), defBody (top 21), ⟨false, false⟩⟩
def F_variance : Fd := ⟨["draw"], ["draw", "whole", "first", "second", "k", "item"], defScope (top 22), defBody (top 22), ⟨false, false⟩⟩
def F_power_mean : Fd := ⟨["draw", "base"], ["draw", "base", "top", "bottom", "found", "scale", "item"], defScope (top 23), defBody (top 23), ⟨false, false⟩⟩
def F_least_number : Fd := ⟨["draw"], ["draw", "k", "item"], defScope (top 24), defBody (top 24), ⟨false, false⟩⟩
def F_middle_number : Fd := ⟨["draw"], ["draw", "total", "k", "item"], defScope (top 25), defBody (top 25), ⟨false, false⟩⟩
def F_common_rows : Fd := ⟨["one", "two"], ["one", "two", "size", "first", "second", "x", "y", "item"], defScope (top 26), defBody (top 26), ⟨false, false⟩⟩
def F_both : Fd := ⟨["one", "two"], ["one", "two", "x", "y"], defScope (top 27), defBody (top 27), ⟨false, false⟩⟩
def F_has_mean : Fd := ⟨["one", "two"], ["one", "two"], defScope (top 28), defBody (top 28), ⟨false, false⟩⟩
def F__law_says : Fd := ⟨["value", "due"], ["value", "due"], defScope (top 32), defBody (top 32), ⟨false, false⟩⟩
def F__law_some : Fd := ⟨["draw", "numbers", "most"], ["draw", "numbers", "most", "top", "row", "k"], defScope (top 33), defBody (top 33), ⟨false, false⟩⟩
def F__law_near : Fd := ⟨["draw", "one"], ["draw", "one", "row", "step", "i", "k", "part", "half"], defScope (top 34), defBody (top 34), ⟨false, false⟩⟩
def F__law_pair : Fd := ⟨["draw", "numbers", "most"], ["draw", "numbers", "most", "one", "two"], defScope (top 35), defBody (top 35), ⟨false, false⟩⟩
def F__law_both : Fd := ⟨["one", "two"], ["one", "two", "size", "a", "b", "item"], defScope (top 36), defBody (top 36), ⟨false, false⟩⟩
def F__law_gcd : Fd := ⟨["a", "b"], ["a", "b"], defScope (top 37), defBody (top 37), ⟨false, false⟩⟩
def F__law_low : Fd := ⟨["n", "d"], ["n", "d", "k"], defScope (top 38), defBody (top 38), ⟨false, false⟩⟩
def F__law_is_draw : Fd := ⟨["value"], ["value", "item"], defScope (top 39), defBody (top 39), ⟨false, false⟩⟩
def F__law_told : Fd := ⟨["which", "one", "two"], ["which", "one", "two"], defScope (top 40), defBody (top 40), ⟨false, false⟩⟩
def F__law_bent : Fd := ⟨["draw", "data"], ["draw", "data", "at"], defScope (top 41), defBody (top 41), ⟨false, false⟩⟩
def fdT : List (Str × Fd) := [(("is_whole" : Str), F_is_whole), (("common" : Str), F_common), (("lowest" : Str), F_lowest), (("is_ratio" : Str), F_is_ratio), (("is_draw" : Str), F_is_draw), (("check_draw" : Str), F_check_draw), (("check_number" : Str), F_check_number), (("draw_of" : Str), F_draw_of), (("plain" : Str), F_plain), (("chance" : Str), F_chance), (("above" : Str), F_above), (("upto" : Str), F_upto), (("excess" : Str), F_excess), (("lack" : Str), F_lack), (("mean" : Str), F_mean), (("variance" : Str), F_variance), (("power_mean" : Str), F_power_mean), (("least_number" : Str), F_least_number), (("middle_number" : Str), F_middle_number), (("common_rows" : Str), F_common_rows), (("both" : Str), F_both), (("has_mean" : Str), F_has_mean), (("_law_says" : Str), F__law_says), (("_law_some" : Str), F__law_some), (("_law_near" : Str), F__law_near), (("_law_pair" : Str), F__law_pair), (("_law_both" : Str), F__law_both), (("_law_gcd" : Str), F__law_gcd), (("_law_low" : Str), F__law_low), (("_law_is_draw" : Str), F__law_is_draw), (("_law_told" : Str), F__law_told), (("_law_bent" : Str), F__law_bent)]
def cstT : List (Str × D) := [(("MOST_NUMBER" : Str), .int 30), (("MOST_WEIGHT" : Str), .int 1000000)]
def bareT : List Str := ["abs", "all", "bool", "enumerate", "int", "isinstance", "len", "list", "max", "min", "range", "sum", "tuple"]
def excT : List Str := ["Malformed"]
def iniT : List Str := []
def subT : List ((Str × Str) × Bool) := [(("Malformed", "Fault"), true), (("Malformed", "ValueError"), true)]
def P : Pg := ⟨fun x => fdT.lookup x, fun x => if x = ("_law_take" : Str) then some takeP else none, fun x => cstT.lookup x, fun x => decide (x ∈ bareT), fun x => decide (x ∈ excT), fun x => decide (x ∈ iniT), fun x y => subT.lookup (x, y)⟩
theorem l_is_whole (call : Str → List D → M D) (w : Nat) : runFd (P.gl call) w F_is_whole = S_is_whole call w := by kernel_rfl
theorem u_is_whole (w k : Nat) : P.call w (k + 1) "is_whole" = S_is_whole (P.call w k) w := (funext fun ds => rfl : P.call w (k + 1) "is_whole" = fun ds => runFd (P.gl (P.call w k)) w F_is_whole ds).trans (l_is_whole (P.call w k) w)
theorem l_common (call : Str → List D → M D) (w : Nat) : runFd (P.gl call) w F_common = S_common call w := by kernel_rfl
theorem u_common (w k : Nat) : P.call w (k + 1) "common" = S_common (P.call w k) w := (funext fun ds => rfl : P.call w (k + 1) "common" = fun ds => runFd (P.gl (P.call w k)) w F_common ds).trans (l_common (P.call w k) w)
theorem l_lowest (call : Str → List D → M D) (w : Nat) : runFd (P.gl call) w F_lowest = S_lowest call w := by kernel_rfl
theorem u_lowest (w k : Nat) : P.call w (k + 1) "lowest" = S_lowest (P.call w k) w := (funext fun ds => rfl : P.call w (k + 1) "lowest" = fun ds => runFd (P.gl (P.call w k)) w F_lowest ds).trans (l_lowest (P.call w k) w)
theorem l_is_ratio (call : Str → List D → M D) (w : Nat) : runFd (P.gl call) w F_is_ratio = S_is_ratio call w := by kernel_rfl
theorem u_is_ratio (w k : Nat) : P.call w (k + 1) "is_ratio" = S_is_ratio (P.call w k) w := (funext fun ds => rfl : P.call w (k + 1) "is_ratio" = fun ds => runFd (P.gl (P.call w k)) w F_is_ratio ds).trans (l_is_ratio (P.call w k) w)
theorem l_is_draw (call : Str → List D → M D) (w : Nat) : runFd (P.gl call) w F_is_draw = S_is_draw call w := by kernel_rfl
theorem u_is_draw (w k : Nat) : P.call w (k + 1) "is_draw" = S_is_draw (P.call w k) w := (funext fun ds => rfl : P.call w (k + 1) "is_draw" = fun ds => runFd (P.gl (P.call w k)) w F_is_draw ds).trans (l_is_draw (P.call w k) w)
theorem l_check_draw (call : Str → List D → M D) (w : Nat) : runFd (P.gl call) w F_check_draw = S_check_draw call w := by kernel_rfl
theorem u_check_draw (w k : Nat) : P.call w (k + 1) "check_draw" = S_check_draw (P.call w k) w := (funext fun ds => rfl : P.call w (k + 1) "check_draw" = fun ds => runFd (P.gl (P.call w k)) w F_check_draw ds).trans (l_check_draw (P.call w k) w)
theorem l_check_number (call : Str → List D → M D) (w : Nat) : runFd (P.gl call) w F_check_number = S_check_number call w := by kernel_rfl
theorem u_check_number (w k : Nat) : P.call w (k + 1) "check_number" = S_check_number (P.call w k) w := (funext fun ds => rfl : P.call w (k + 1) "check_number" = fun ds => runFd (P.gl (P.call w k)) w F_check_number ds).trans (l_check_number (P.call w k) w)
theorem l_draw_of (call : Str → List D → M D) (w : Nat) : runFd (P.gl call) w F_draw_of = S_draw_of call w := by kernel_rfl
theorem u_draw_of (w k : Nat) : P.call w (k + 1) "draw_of" = S_draw_of (P.call w k) w := (funext fun ds => rfl : P.call w (k + 1) "draw_of" = fun ds => runFd (P.gl (P.call w k)) w F_draw_of ds).trans (l_draw_of (P.call w k) w)
theorem l_plain (call : Str → List D → M D) (w : Nat) : runFd (P.gl call) w F_plain = S_plain call w := by kernel_rfl
theorem u_plain (w k : Nat) : P.call w (k + 1) "plain" = S_plain (P.call w k) w := (funext fun ds => rfl : P.call w (k + 1) "plain" = fun ds => runFd (P.gl (P.call w k)) w F_plain ds).trans (l_plain (P.call w k) w)
theorem l_chance (call : Str → List D → M D) (w : Nat) : runFd (P.gl call) w F_chance = S_chance call w := by kernel_rfl
theorem u_chance (w k : Nat) : P.call w (k + 1) "chance" = S_chance (P.call w k) w := (funext fun ds => rfl : P.call w (k + 1) "chance" = fun ds => runFd (P.gl (P.call w k)) w F_chance ds).trans (l_chance (P.call w k) w)
theorem l_above (call : Str → List D → M D) (w : Nat) : runFd (P.gl call) w F_above = S_above call w := by kernel_rfl
theorem u_above (w k : Nat) : P.call w (k + 1) "above" = S_above (P.call w k) w := (funext fun ds => rfl : P.call w (k + 1) "above" = fun ds => runFd (P.gl (P.call w k)) w F_above ds).trans (l_above (P.call w k) w)
theorem l_upto (call : Str → List D → M D) (w : Nat) : runFd (P.gl call) w F_upto = S_upto call w := by kernel_rfl
theorem u_upto (w k : Nat) : P.call w (k + 1) "upto" = S_upto (P.call w k) w := (funext fun ds => rfl : P.call w (k + 1) "upto" = fun ds => runFd (P.gl (P.call w k)) w F_upto ds).trans (l_upto (P.call w k) w)
theorem l_excess (call : Str → List D → M D) (w : Nat) : runFd (P.gl call) w F_excess = S_excess call w := by kernel_rfl
theorem u_excess (w k : Nat) : P.call w (k + 1) "excess" = S_excess (P.call w k) w := (funext fun ds => rfl : P.call w (k + 1) "excess" = fun ds => runFd (P.gl (P.call w k)) w F_excess ds).trans (l_excess (P.call w k) w)
theorem l_lack (call : Str → List D → M D) (w : Nat) : runFd (P.gl call) w F_lack = S_lack call w := by kernel_rfl
theorem u_lack (w k : Nat) : P.call w (k + 1) "lack" = S_lack (P.call w k) w := (funext fun ds => rfl : P.call w (k + 1) "lack" = fun ds => runFd (P.gl (P.call w k)) w F_lack ds).trans (l_lack (P.call w k) w)
theorem l_mean (call : Str → List D → M D) (w : Nat) : runFd (P.gl call) w F_mean = S_mean call w := by kernel_rfl
theorem u_mean (w k : Nat) : P.call w (k + 1) "mean" = S_mean (P.call w k) w := (funext fun ds => rfl : P.call w (k + 1) "mean" = fun ds => runFd (P.gl (P.call w k)) w F_mean ds).trans (l_mean (P.call w k) w)
theorem l_variance (call : Str → List D → M D) (w : Nat) : runFd (P.gl call) w F_variance = S_variance call w := by kernel_rfl
theorem u_variance (w k : Nat) : P.call w (k + 1) "variance" = S_variance (P.call w k) w := (funext fun ds => rfl : P.call w (k + 1) "variance" = fun ds => runFd (P.gl (P.call w k)) w F_variance ds).trans (l_variance (P.call w k) w)
theorem l_power_mean (call : Str → List D → M D) (w : Nat) : runFd (P.gl call) w F_power_mean = S_power_mean call w := by kernel_rfl
theorem u_power_mean (w k : Nat) : P.call w (k + 1) "power_mean" = S_power_mean (P.call w k) w := (funext fun ds => rfl : P.call w (k + 1) "power_mean" = fun ds => runFd (P.gl (P.call w k)) w F_power_mean ds).trans (l_power_mean (P.call w k) w)
theorem l_least_number (call : Str → List D → M D) (w : Nat) : runFd (P.gl call) w F_least_number = S_least_number call w := by kernel_rfl
theorem u_least_number (w k : Nat) : P.call w (k + 1) "least_number" = S_least_number (P.call w k) w := (funext fun ds => rfl : P.call w (k + 1) "least_number" = fun ds => runFd (P.gl (P.call w k)) w F_least_number ds).trans (l_least_number (P.call w k) w)
theorem l_middle_number (call : Str → List D → M D) (w : Nat) : runFd (P.gl call) w F_middle_number = S_middle_number call w := by kernel_rfl
theorem u_middle_number (w k : Nat) : P.call w (k + 1) "middle_number" = S_middle_number (P.call w k) w := (funext fun ds => rfl : P.call w (k + 1) "middle_number" = fun ds => runFd (P.gl (P.call w k)) w F_middle_number ds).trans (l_middle_number (P.call w k) w)
theorem l_common_rows (call : Str → List D → M D) (w : Nat) : runFd (P.gl call) w F_common_rows = S_common_rows call w := by kernel_rfl
theorem u_common_rows (w k : Nat) : P.call w (k + 1) "common_rows" = S_common_rows (P.call w k) w := (funext fun ds => rfl : P.call w (k + 1) "common_rows" = fun ds => runFd (P.gl (P.call w k)) w F_common_rows ds).trans (l_common_rows (P.call w k) w)
theorem l_both (call : Str → List D → M D) (w : Nat) : runFd (P.gl call) w F_both = S_both call w := by kernel_rfl
theorem u_both (w k : Nat) : P.call w (k + 1) "both" = S_both (P.call w k) w := (funext fun ds => rfl : P.call w (k + 1) "both" = fun ds => runFd (P.gl (P.call w k)) w F_both ds).trans (l_both (P.call w k) w)
theorem l_has_mean (call : Str → List D → M D) (w : Nat) : runFd (P.gl call) w F_has_mean = S_has_mean call w := by kernel_rfl
theorem u_has_mean (w k : Nat) : P.call w (k + 1) "has_mean" = S_has_mean (P.call w k) w := (funext fun ds => rfl : P.call w (k + 1) "has_mean" = fun ds => runFd (P.gl (P.call w k)) w F_has_mean ds).trans (l_has_mean (P.call w k) w)
theorem l__law_says (call : Str → List D → M D) (w : Nat) : runFd (P.gl call) w F__law_says = S__law_says call w := by kernel_rfl
theorem u__law_says (w k : Nat) : P.call w (k + 1) "_law_says" = S__law_says (P.call w k) w := (funext fun ds => rfl : P.call w (k + 1) "_law_says" = fun ds => runFd (P.gl (P.call w k)) w F__law_says ds).trans (l__law_says (P.call w k) w)
theorem l__law_some (call : Str → List D → M D) (w : Nat) : runFd (P.gl call) w F__law_some = S__law_some call w := by kernel_rfl
theorem u__law_some (w k : Nat) : P.call w (k + 1) "_law_some" = S__law_some (P.call w k) w := (funext fun ds => rfl : P.call w (k + 1) "_law_some" = fun ds => runFd (P.gl (P.call w k)) w F__law_some ds).trans (l__law_some (P.call w k) w)
theorem l__law_near (call : Str → List D → M D) (w : Nat) : runFd (P.gl call) w F__law_near = S__law_near call w := by kernel_rfl
theorem u__law_near (w k : Nat) : P.call w (k + 1) "_law_near" = S__law_near (P.call w k) w := (funext fun ds => rfl : P.call w (k + 1) "_law_near" = fun ds => runFd (P.gl (P.call w k)) w F__law_near ds).trans (l__law_near (P.call w k) w)
theorem l__law_pair (call : Str → List D → M D) (w : Nat) : runFd (P.gl call) w F__law_pair = S__law_pair call w := by kernel_rfl
theorem u__law_pair (w k : Nat) : P.call w (k + 1) "_law_pair" = S__law_pair (P.call w k) w := (funext fun ds => rfl : P.call w (k + 1) "_law_pair" = fun ds => runFd (P.gl (P.call w k)) w F__law_pair ds).trans (l__law_pair (P.call w k) w)
theorem l__law_both (call : Str → List D → M D) (w : Nat) : runFd (P.gl call) w F__law_both = S__law_both call w := by kernel_rfl
theorem u__law_both (w k : Nat) : P.call w (k + 1) "_law_both" = S__law_both (P.call w k) w := (funext fun ds => rfl : P.call w (k + 1) "_law_both" = fun ds => runFd (P.gl (P.call w k)) w F__law_both ds).trans (l__law_both (P.call w k) w)
theorem l__law_gcd (call : Str → List D → M D) (w : Nat) : runFd (P.gl call) w F__law_gcd = S__law_gcd call w := by kernel_rfl
theorem u__law_gcd (w k : Nat) : P.call w (k + 1) "_law_gcd" = S__law_gcd (P.call w k) w := (funext fun ds => rfl : P.call w (k + 1) "_law_gcd" = fun ds => runFd (P.gl (P.call w k)) w F__law_gcd ds).trans (l__law_gcd (P.call w k) w)
theorem l__law_low (call : Str → List D → M D) (w : Nat) : runFd (P.gl call) w F__law_low = S__law_low call w := by kernel_rfl
theorem u__law_low (w k : Nat) : P.call w (k + 1) "_law_low" = S__law_low (P.call w k) w := (funext fun ds => rfl : P.call w (k + 1) "_law_low" = fun ds => runFd (P.gl (P.call w k)) w F__law_low ds).trans (l__law_low (P.call w k) w)
theorem l__law_is_draw (call : Str → List D → M D) (w : Nat) : runFd (P.gl call) w F__law_is_draw = S__law_is_draw call w := by kernel_rfl
theorem u__law_is_draw (w k : Nat) : P.call w (k + 1) "_law_is_draw" = S__law_is_draw (P.call w k) w := (funext fun ds => rfl : P.call w (k + 1) "_law_is_draw" = fun ds => runFd (P.gl (P.call w k)) w F__law_is_draw ds).trans (l__law_is_draw (P.call w k) w)
theorem l__law_told (call : Str → List D → M D) (w : Nat) : runFd (P.gl call) w F__law_told = S__law_told call w := by kernel_rfl
theorem u__law_told (w k : Nat) : P.call w (k + 1) "_law_told" = S__law_told (P.call w k) w := (funext fun ds => rfl : P.call w (k + 1) "_law_told" = fun ds => runFd (P.gl (P.call w k)) w F__law_told ds).trans (l__law_told (P.call w k) w)
theorem l__law_bent (call : Str → List D → M D) (w : Nat) : runFd (P.gl call) w F__law_bent = S__law_bent call w := by kernel_rfl
theorem u__law_bent (w k : Nat) : P.call w (k + 1) "_law_bent" = S__law_bent (P.call w k) w := (funext fun ds => rfl : P.call w (k + 1) "_law_bent" = fun ds => runFd (P.gl (P.call w k)) w F__law_bent ds).trans (l__law_bent (P.call w k) w)
theorem l_law (call : Str → List D → M D) (w : Nat) (σ : St) : exec (P.gl call) (evE (P.gl call) 40) w ⟨nLaw, defScope (top 42), defScope (top 42)⟩ 60 σ ((defBody (top 42)).drop 1) = S_law call w σ := by kernel_rfl
theorem u__law_take (w k : Nat) : P.call w (k + 1) "_law_take" = takeP := rfl
theorem c__law_says {w k : Nat} (hw : 200 ≤ w) (hk : 1 ≤ k) : Sp__law_says (P.call w k "_law_says") := by
  obtain ⟨k, rfl⟩ : ∃ j, k = j + 1 := ⟨k - 1, by omega⟩
  rw [u__law_says]
  exact s__law_says 
theorem c__law_both {w k : Nat} (hw : 200 ≤ w) (hk : 1 ≤ k) : Sp__law_both (P.call w k "_law_both") := by
  obtain ⟨k, rfl⟩ : ∃ j, k = j + 1 := ⟨k - 1, by omega⟩
  rw [u__law_both]
  exact s__law_both 
theorem c__law_gcd {w k : Nat} (hw : 200 ≤ w) (hk : 1 ≤ k) : Sp__law_gcd (P.call w k "_law_gcd") := by
  obtain ⟨k, rfl⟩ : ∃ j, k = j + 1 := ⟨k - 1, by omega⟩
  rw [u__law_gcd]
  exact s__law_gcd (by omega)
theorem c__law_low {w k : Nat} (hw : 200 ≤ w) (hk : 2 ≤ k) : Sp__law_low (P.call w k "_law_low") := by
  obtain ⟨k, rfl⟩ : ∃ j, k = j + 1 := ⟨k - 1, by omega⟩
  rw [u__law_low]
  exact s__law_low (c__law_gcd hw (by omega))
theorem c_is_whole {w k : Nat} (hw : 200 ≤ w) (hk : 1 ≤ k) : Sp_is_whole (P.call w k "is_whole") := by
  obtain ⟨k, rfl⟩ : ∃ j, k = j + 1 := ⟨k - 1, by omega⟩
  rw [u_is_whole]
  exact s_is_whole 
theorem c_is_draw {w k : Nat} (hw : 200 ≤ w) (hk : 2 ≤ k) : Sp_is_draw (P.call w k "is_draw") := by
  obtain ⟨k, rfl⟩ : ∃ j, k = j + 1 := ⟨k - 1, by omega⟩
  rw [u_is_draw]
  exact s_is_draw (c_is_whole hw (by omega))
theorem c_check_draw {w k : Nat} (hw : 200 ≤ w) (hk : 3 ≤ k) : Sp_check_draw (P.call w k "check_draw") := by
  obtain ⟨k, rfl⟩ : ∃ j, k = j + 1 := ⟨k - 1, by omega⟩
  rw [u_check_draw]
  exact s_check_draw (c_is_draw hw (by omega))
theorem c_common {w k : Nat} (hw : 200 ≤ w) (hk : 1 ≤ k) : Sp_common (P.call w k "common") := by
  obtain ⟨k, rfl⟩ : ∃ j, k = j + 1 := ⟨k - 1, by omega⟩
  rw [u_common]
  exact s_common (by omega)
theorem c_plain {w k : Nat} (hw : 200 ≤ w) (hk : 4 ≤ k) : Sp_plain (P.call w k "plain") := by
  obtain ⟨k, rfl⟩ : ∃ j, k = j + 1 := ⟨k - 1, by omega⟩
  rw [u_plain]
  exact s_plain (c_check_draw hw (by omega)) (c_common hw (by omega))
theorem c_check_number {w k : Nat} (hw : 200 ≤ w) (hk : 2 ≤ k) : Sp_check_number (P.call w k "check_number") := by
  obtain ⟨k, rfl⟩ : ∃ j, k = j + 1 := ⟨k - 1, by omega⟩
  rw [u_check_number]
  exact s_check_number (c_is_whole hw (by omega))
theorem c_lowest {w k : Nat} (hw : 200 ≤ w) (hk : 2 ≤ k) : Sp_lowest (P.call w k "lowest") := by
  obtain ⟨k, rfl⟩ : ∃ j, k = j + 1 := ⟨k - 1, by omega⟩
  rw [u_lowest]
  exact s_lowest (c_common hw (by omega))
theorem c_excess {w k : Nat} (hw : 200 ≤ w) (hk : 4 ≤ k) : Sp_excess (P.call w k "excess") := by
  obtain ⟨k, rfl⟩ : ∃ j, k = j + 1 := ⟨k - 1, by omega⟩
  rw [u_excess]
  exact s_excess (c_check_draw hw (by omega)) (c_check_number hw (by omega)) (c_lowest hw (by omega))
theorem c_mean {w k : Nat} (hw : 200 ≤ w) (hk : 5 ≤ k) : Sp_mean (P.call w k "mean") := by
  obtain ⟨k, rfl⟩ : ∃ j, k = j + 1 := ⟨k - 1, by omega⟩
  rw [u_mean]
  exact s_mean (c_excess hw (by omega))
theorem c_variance {w k : Nat} (hw : 200 ≤ w) (hk : 4 ≤ k) : Sp_variance (P.call w k "variance") := by
  obtain ⟨k, rfl⟩ : ∃ j, k = j + 1 := ⟨k - 1, by omega⟩
  rw [u_variance]
  exact s_variance (c_check_draw hw (by omega)) (c_lowest hw (by omega))
theorem c_least_number {w k : Nat} (hw : 200 ≤ w) (hk : 4 ≤ k) : Sp_least_number (P.call w k "least_number") := by
  obtain ⟨k, rfl⟩ : ∃ j, k = j + 1 := ⟨k - 1, by omega⟩
  rw [u_least_number]
  exact s_least_number (c_check_draw hw (by omega))
theorem c_middle_number {w k : Nat} (hw : 200 ≤ w) (hk : 4 ≤ k) : Sp_middle_number (P.call w k "middle_number") := by
  obtain ⟨k, rfl⟩ : ∃ j, k = j + 1 := ⟨k - 1, by omega⟩
  rw [u_middle_number]
  exact s_middle_number (c_check_draw hw (by omega))
theorem c_draw_of {w k : Nat} (hw : 200 ≤ w) (hk : 4 ≤ k) : Sp_draw_of (P.call w k "draw_of") := by
  obtain ⟨k, rfl⟩ : ∃ j, k = j + 1 := ⟨k - 1, by omega⟩
  rw [u_draw_of]
  exact s_draw_of (by omega) (c_is_whole hw (by omega)) (c_check_draw hw (by omega))
theorem c_chance {w k : Nat} (hw : 200 ≤ w) (hk : 4 ≤ k) : Sp_chance (P.call w k "chance") := by
  obtain ⟨k, rfl⟩ : ∃ j, k = j + 1 := ⟨k - 1, by omega⟩
  rw [u_chance]
  exact s_chance (c_check_draw hw (by omega)) (c_check_number hw (by omega)) (c_lowest hw (by omega))
theorem c_above {w k : Nat} (hw : 200 ≤ w) (hk : 4 ≤ k) : Sp_above (P.call w k "above") := by
  obtain ⟨k, rfl⟩ : ∃ j, k = j + 1 := ⟨k - 1, by omega⟩
  rw [u_above]
  exact s_above (c_check_draw hw (by omega)) (c_check_number hw (by omega)) (c_lowest hw (by omega))
theorem c_upto {w k : Nat} (hw : 200 ≤ w) (hk : 4 ≤ k) : Sp_upto (P.call w k "upto") := by
  obtain ⟨k, rfl⟩ : ∃ j, k = j + 1 := ⟨k - 1, by omega⟩
  rw [u_upto]
  exact s_upto (c_check_draw hw (by omega)) (c_check_number hw (by omega)) (c_lowest hw (by omega))
theorem c_lack {w k : Nat} (hw : 200 ≤ w) (hk : 4 ≤ k) : Sp_lack (P.call w k "lack") := by
  obtain ⟨k, rfl⟩ : ∃ j, k = j + 1 := ⟨k - 1, by omega⟩
  rw [u_lack]
  exact s_lack (c_check_draw hw (by omega)) (c_check_number hw (by omega)) (c_lowest hw (by omega))
theorem c_is_ratio {w k : Nat} (hw : 200 ≤ w) (hk : 2 ≤ k) : Sp_is_ratio (P.call w k "is_ratio") := by
  obtain ⟨k, rfl⟩ : ∃ j, k = j + 1 := ⟨k - 1, by omega⟩
  rw [u_is_ratio]
  exact s_is_ratio (c_is_whole hw (by omega)) (c_common hw (by omega))
theorem c_power_mean {w k : Nat} (hw : 200 ≤ w) (hk : 4 ≤ k) : Sp_power_mean (P.call w k "power_mean") := by
  obtain ⟨k, rfl⟩ : ∃ j, k = j + 1 := ⟨k - 1, by omega⟩
  rw [u_power_mean]
  exact s_power_mean (c_check_draw hw (by omega)) (c_is_ratio hw (by omega)) (c_lowest hw (by omega))
theorem c_common_rows {w k : Nat} (hw : 200 ≤ w) (hk : 1 ≤ k) : Sp_common_rows (P.call w k "common_rows") := by
  obtain ⟨k, rfl⟩ : ∃ j, k = j + 1 := ⟨k - 1, by omega⟩
  rw [u_common_rows]
  exact s_common_rows 
theorem c_both {w k : Nat} (hw : 200 ≤ w) (hk : 4 ≤ k) : Sp_both (P.call w k "both") := by
  obtain ⟨k, rfl⟩ : ∃ j, k = j + 1 := ⟨k - 1, by omega⟩
  rw [u_both]
  exact s_both (c_check_draw hw (by omega)) (c_common_rows hw (by omega))
theorem c_has_mean {w k : Nat} (hw : 200 ≤ w) (hk : 6 ≤ k) : Sp_has_mean (P.call w k "has_mean") := by
  obtain ⟨k, rfl⟩ : ∃ j, k = j + 1 := ⟨k - 1, by omega⟩
  rw [u_has_mean]
  exact s_has_mean (c_check_draw hw (by omega)) (c_mean hw (by omega))
theorem c__law_told01 {w k : Nat} (hw : 200 ≤ w) (hk : 7 ≤ k) : Sp__law_told01 (P.call w k "_law_told") := by
  obtain ⟨k, rfl⟩ : ∃ j, k = j + 1 := ⟨k - 1, by omega⟩
  rw [u__law_told]
  exact s__law_told01 (c_plain hw (by omega)) (c_mean hw (by omega)) (c_variance hw (by omega)) (c_least_number hw (by omega)) (c_middle_number hw (by omega)) (c_draw_of hw (by omega)) (c_chance hw (by omega)) (c_above hw (by omega)) (c_upto hw (by omega)) (c_excess hw (by omega)) (c_lack hw (by omega)) (c_power_mean hw (by omega)) (c_both hw (by omega)) (c_has_mean hw (by omega))
theorem c__law_is_draw {w k : Nat} (hw : 200 ≤ w) (hk : 1 ≤ k) : Sp__law_is_draw (P.call w k "_law_is_draw") := by
  obtain ⟨k, rfl⟩ : ∃ j, k = j + 1 := ⟨k - 1, by omega⟩
  rw [u__law_is_draw]
  exact s__law_is_draw 
theorem c__law_bent0 {w k : Nat} (hw : 200 ≤ w) (hk : 2 ≤ k) : Sp__law_bent0 (P.call w k "_law_bent") := by
  obtain ⟨k, rfl⟩ : ∃ j, k = j + 1 := ⟨k - 1, by omega⟩
  rw [u__law_bent]
  exact s__law_bent0 (by obtain ⟨j, rfl⟩ : ∃ j, k = j + 1 := ⟨k - 1, by omega⟩; exact u__law_take w j)
theorem c__law_bent {w k : Nat} (hw : 200 ≤ w) (hk : 3 ≤ k) : Sp__law_bent (P.call w k "_law_bent") := by
  obtain ⟨k, rfl⟩ : ∃ j, k = j + 1 := ⟨k - 1, by omega⟩
  rw [u__law_bent]
  exact s__law_bent (by obtain ⟨j, rfl⟩ : ∃ j, k = j + 1 := ⟨k - 1, by omega⟩; exact u__law_take w j) (c__law_bent0 hw (by omega))
theorem c__law_some {w k : Nat} (hw : 200 ≤ w) (hk : 2 ≤ k) : Sp__law_some (P.call w k "_law_some") := by
  obtain ⟨k, rfl⟩ : ∃ j, k = j + 1 := ⟨k - 1, by omega⟩
  rw [u__law_some]
  exact s__law_some (by omega) (by obtain ⟨j, rfl⟩ : ∃ j, k = j + 1 := ⟨k - 1, by omega⟩; exact u__law_take w j)
theorem c__law_near2 {w k : Nat} (hw : 200 ≤ w) (hk : 2 ≤ k) : Sp__law_near2 (P.call w k "_law_near") := by
  obtain ⟨k, rfl⟩ : ∃ j, k = j + 1 := ⟨k - 1, by omega⟩
  rw [u__law_near]
  exact s__law_near (by omega) (by obtain ⟨j, rfl⟩ : ∃ j, k = j + 1 := ⟨k - 1, by omega⟩; exact u__law_take w j)
theorem c__law_pair2 {w k : Nat} (hw : 200 ≤ w) (hk : 3 ≤ k) : Sp__law_pair2 (P.call w k "_law_pair") := by
  obtain ⟨k, rfl⟩ : ∃ j, k = j + 1 := ⟨k - 1, by omega⟩
  rw [u__law_pair]
  exact s__law_pair (by obtain ⟨j, rfl⟩ : ∃ j, k = j + 1 := ⟨k - 1, by omega⟩; exact u__law_take w j) (c__law_some hw (by omega)) (c__law_near2 hw (by omega))
theorem law_runs (w : Nat) (hw : 200 ≤ w) {s : DS} (hs : OkS s) : (S_law (P.call w 7) w (startL nLaw.length) s).sat fun fl _ => ∃ o, fl = .ret (.bool true) o := run_law (u__law_take w 6) (c__law_says hw (by omega)) (c__law_both hw (by omega)) (c__law_low hw (by omega)) (c__law_gcd hw (by omega)) (c__law_told01 hw (by omega)) (c_is_draw hw (by omega)) (c__law_is_draw hw (by omega)) (c__law_bent hw (by omega)) (c__law_pair2 hw (by omega)) hs
-- level 7
end Py

set_option Elab.async false
set_option linter.all false
set_option maxRecDepth 100000
set_option maxHeartbeats 1000000
namespace Py
open PySem PySem.Spec PyProof.Rows L2
abbrev sTake : Stmt := top 31
theorem scTake : FnScope ["draw", "many", "found"] ["draw", "many"] (defScope sTake) := ⟨rfl, rfl, rfl, by decide +kernel, rfl, by decide +kernel, by decide +kernel⟩
section
variable {U : Wd}
theorem ok_take {f : Addr} {fd : FuncData} (F : L2.Fun U.K "_law_take" "_law_take" sTake f fd) (ml : U.mg "len" = none) (mi : U.mg "int" = none) :
    FnOk U.P U.w U.K U.mg U.base (L2.CX U.P U.w) 1 f fd ["draw", "many"] (spF U (fun _ => takeP) ⟨false, true⟩ "_law_take" 2) := by
  refine F.okX scTake (fun vs H Q E h => h.1) (fun cdv A outer s0 H vs Q E hr h => ?_)
  obtain ⟨_, ow, s, ds, hk, hcl, r, w⟩ := h
  obtain ⟨n, rfl, hn, w⟩ : ∃ n, ds = [.dict [(.none, .none)], .int n] ∧ (0 < n ∧ n.natAbs.log2 < 9000 ∧ -1 ≤ s.at_ ∧ 0 ≤ s.seed ∧ s.seed < 2147483647) ∧ Wp (take n) s (PostE U ow (fun d => false && isL d) H Q) (PostXE U E H) := by
    have w' : Wp (takeP ds) s (PostE U ow (fun d => false && isL d) H Q) (PostXE U E H) := w
    clear w
    unfold takeP at w'
    split at w'
    · rename_i n
      refine ⟨n, rfl, ?_, w'⟩
      unfold Wp take at w'
      by_cases hc : 0 < n ∧ n.natAbs.log2 < 9000 ∧ -1 ≤ s.at_ ∧ 0 ≤ s.seed ∧ s.seed < 2147483647
      · exact hc
      · rw [if_neg hc] at w'; exact w'.elim
    · exact w'.of_fail.elim
  obtain ⟨h1, h2, h3, h4, h5⟩ := hn
  have ⟨rowH, cellH, hne⟩ := hk.cap
  obtain ⟨u, r1, rfl, rv1, r⟩ : ∃ u r1, vs = u :: r1 ∧ Rp U ow H (.dict [(.none, .none)]) u ∧ RpL U ow H [.int n] r1 := by unfold RpL at r; exact r
  obtain ⟨u2, r2, rfl, rv2, r⟩ : ∃ u r3, r1 = u :: r3 ∧ Rp U ow H (.int n) u ∧ RpL U ow H [] r3 := by unfold RpL at r; exact r
  unfold RpL at r
  subst r
  unfold Rp at rv1 rv2
  have rv1 : u = .ref U.cap := by
    rcases rv1 with ⟨_, e⟩ | ⟨a, xs, e, _, rd⟩
    · exact e
    · unfold RpD at rd
      obtain ⟨_, _, _, _, hk, _⟩ := rd
      cases hk
  subst rv1
  subst rv2
  refine ⟨_, pss_cons (ps_if (pt_cmpR op_eq (pe_ix ix_list (pv 0) pe_int fun _ _ => rfl) pe_int (nomark _))
      (pss_cons (ps_asg (pe_op op_add (pe_ix ix_list (pv 0) pe_int fun _ _ => rfl) pe_int) (pg_sub (pv 0) pe_int set_list))
      (pss_cons (ps_if (pt_cmpR op_lt (pe_ix ix_list (pv 0) pe_int fun _ _ => rfl) (pe_callB call_len_seq rfl ml PySem.boot_len (pa_cons (pe_ix ix_list (pv 0) pe_int fun _ _ => rfl) pa_nil)) (nomark _))
        (pss_one (ps_asg (pe_ix ix_list (pe_ix ix_list (pv 0) pe_int fun _ _ => rfl) (pe_ix ix_list (pv 0) pe_int fun _ _ => rfl) fun _ _ => rfl) (pg_sub (pv 0) pe_int set_list))) pss_nil)
      (pss_one (ps_if (pt_cmpR op_eq (pe_ix ix_list (pv 0) pe_int fun _ _ => rfl) pe_int (nomark _))
        (pss_cons (ps_asg (pe_op op_mod (pe_callTy call_int1 rfl mi (by decide +kernel) (pa_cons (pe_op op_add (pe_op op_mulW (pe_ix ix_list (pv 0) pe_int fun _ _ => rfl) pe_int) pe_int) pa_nil)) pe_int) (pg_sub (pv 0) pe_int set_list))
        (pss_one (ps_asg (pe_ix ix_list (pv 0) pe_int fun _ _ => rfl) (pg_sub (pv 0) pe_int set_list)))) pss_nil)))) pss_nil)
    (pss_cons (ps_set (i := 2) scTake.nd rfl (Or.inl rfl) (pe_op op_mod (pe_callTy call_int1 rfl mi (by decide +kernel) (pa_cons (pe_ix ix_list (pv 0) pe_int fun _ _ => rfl) pa_nil)) (pv 1)))
    (pss_cons (ps_asg (pe_op op_fdivW (pe_ix ix_list (pv 0) pe_int fun _ _ => rfl) (pv 1)) (pg_sub (pv 0) pe_int set_list))
    (pss_one (ps_ret (pv 2))))), ?_⟩
  have ix0 : ∀ (xs : List V) (v : V) (i : Int) (n : Nat), i = n → xs[n]? = some v → atI xs i = some v := fun xs v i n e h => by subst e; exact atI_nat h
  have w2 : PostE U ow (fun d => false && isL d) H Q (.int ((nextS s).cur % n)) { nextS s with cur := (nextS s).cur / n } := by
    have w' := w
    unfold Wp take at w'
    rw [if_pos ⟨h1, h2, h3, h4, h5⟩] at w'
    exact w'
  clear w
  have fin : ∀ (H' : Hp) (a c sd : Int), H' U.cap = some (.lst [.ref U.cell, .int a, .int c, .int sd]) → Ext U H H' → PostE U ow (fun d => false && isL d) H Q (.int (c % n)) ⟨s.cells, a, c / n, sd⟩ → Q (.int (c % n)) (upd H' U.cap (.lst [.ref U.cell, .int a, .int (c / n), .int sd])) := fun H' a c sd r e q =>
    q _ _ (fun b u hb z => by rw [upd_ne hb]; exact e b u hb z) ⟨upd_same, by rw [upd_ne hne]; exact e _ _ hne cellH, hne⟩ Rp.int fun z => by simp at z
  refine ⟨_, rfl, U.cap, _, _, _, rfl, rfl, SqL.of_eq rowH, ix0 _ _ _ 2 rfl rfl, rfl, _, rfl, ?_⟩
  refine ite2 (fun c => ?_) (fun c => ?_)
  · have hc : s.cur = 0 := by have z := of_decide_eq_true c; simpa using z
    have b1 : U.cell ≠ U.cap := hne
    refine ⟨_, rfl, U.cap, _, _, _, rfl, rfl, SqL.of_eq rowH, ix0 _ _ _ 1 rfl rfl, _, _, rfl, rfl, _, rfl, U.cap, _, _, 1, rfl, rfl, rowH, rfl, ?_⟩
    have r1 : upd H U.cap (.lst [.ref U.cell, .int (s.at_ + 1), .int s.cur, .int s.seed]) U.cap = _ := upd_same
    have e1 : Ext U H (upd H U.cap (.lst [.ref U.cell, .int (s.at_ + 1), .int s.cur, .int s.seed])) := fun b u hb z => by rw [upd_ne hb]; exact z
    refine ⟨_, rfl, U.cap, _, _, _, rfl, rfl, SqL.of_eq r1, ix0 _ _ _ 1 rfl rfl, _, rfl, U.cap, _, _, _, rfl, rfl, SqL.of_eq r1, ix0 _ _ _ 0 rfl rfl, U.cell, _, rfl, .inl (SqL.of_eq (e1 _ _ hne cellH)), _, _, rfl, rfl, _, rfl, ?_⟩
    have cm : CMulW s.seed 48271 := by
      unfold CMulW
      have a1 : s.seed.natAbs < 2 ^ 31 := by omega
      have a2 := PySem.Flt.log2_lt_of (by decide) a1
      have a3 : (48271 : Int).natAbs.log2 = 15 := by decide +kernel
      omega
    refine ite2 (fun c1 => ?_) (fun c1 => ?_)
    · have hl : s.at_ + 1 < (s.cells.length : Int) := by have z := of_decide_eq_true c1; simpa using z
      have hx : (s.at_ + 1).toNat < s.cells.length := by omega
      have hg : s.cells.getD (s.at_ + 1).toNat 0 = s.cells[(s.at_ + 1).toNat] := by rw [List.getD_eq_getElem?_getD, List.getElem?_eq_getElem hx]; rfl
      have ha : atI (s.cells.map V.int) (s.at_ + 1) = some (.int (s.cells.getD (s.at_ + 1).toNat 0)) := ix0 _ _ _ (s.at_ + 1).toNat (by omega) (by rw [List.getElem?_map, List.getElem?_eq_getElem hx, hg]; rfl)
      refine ⟨_, rfl, U.cap, _, _, _, rfl, rfl, SqL.of_eq r1, ix0 _ _ _ 0 rfl rfl, _, rfl, U.cap, _, _, _, rfl, rfl, SqL.of_eq r1, ix0 _ _ _ 1 rfl rfl, U.cell, _, _, _, rfl, rfl, SqL.of_eq (e1 _ _ hne cellH), ha, _, rfl, U.cap, _, _, 2, rfl, rfl, r1, rfl, ?_⟩
      have r2 : upd (upd H U.cap (.lst [.ref U.cell, .int (s.at_ + 1), .int s.cur, .int s.seed])) U.cap (.lst [.ref U.cell, .int (s.at_ + 1), .int (s.cells.getD (s.at_ + 1).toNat 0), .int s.seed]) U.cap = _ := upd_same
      have e2 : Ext U H (upd (upd H U.cap (.lst [.ref U.cell, .int (s.at_ + 1), .int s.cur, .int s.seed])) U.cap (.lst [.ref U.cell, .int (s.at_ + 1), .int (s.cells.getD (s.at_ + 1).toNat 0), .int s.seed])) := fun b u hb z => by rw [upd_ne hb]; exact e1 b u hb z
      refine ⟨_, rfl, U.cap, _, _, _, rfl, rfl, SqL.of_eq r2, ix0 _ _ _ 2 rfl rfl, rfl, _, rfl, ?_⟩
      refine ite2 (fun c2 => ?_) (fun c2 => ?_)
      · have hg0 : (s.cells.getD (s.at_ + 1).toNat 0) = 0 := by have z := of_decide_eq_true c2; exact V.int.inj z
        have e : nextS s = ⟨s.cells, s.at_ + 1, (s.seed * 48271 + 11) % 2147483647, (s.seed * 48271 + 11) % 2147483647⟩ := by
          unfold nextS
          rw [if_pos hc, if_neg (fun z => z.2 hg0)]
        rw [e] at w2
        have r3 : upd (upd (upd H U.cap (.lst [.ref U.cell, .int (s.at_ + 1), .int s.cur, .int s.seed])) U.cap (.lst [.ref U.cell, .int (s.at_ + 1), .int (s.cells.getD (s.at_ + 1).toNat 0), .int s.seed])) U.cap (.lst [.ref U.cell, .int (s.at_ + 1), .int (s.cells.getD (s.at_ + 1).toNat 0), .int ((s.seed * 48271 + 11) % 2147483647)]) U.cap = _ := upd_same
        have e3 : Ext U H (upd (upd (upd H U.cap (.lst [.ref U.cell, .int (s.at_ + 1), .int s.cur, .int s.seed])) U.cap (.lst [.ref U.cell, .int (s.at_ + 1), .int (s.cells.getD (s.at_ + 1).toNat 0), .int s.seed])) U.cap (.lst [.ref U.cell, .int (s.at_ + 1), .int (s.cells.getD (s.at_ + 1).toNat 0), .int ((s.seed * 48271 + 11) % 2147483647)])) := fun b u hb z => by rw [upd_ne hb]; exact e2 b u hb z
        refine ⟨_, rfl, U.cap, _, _, _, rfl, rfl, SqL.of_eq r2, ix0 _ _ _ 3 rfl rfl, _, _, rfl, rfl, cm, _, _, rfl, rfl, .inl ⟨_, rfl, _, _, rfl, rfl, by show (0 : Int) < 2147483647; decide, _, rfl, U.cap, _, _, 3, rfl, rfl, r2, rfl, ?_⟩⟩
        refine ⟨_, rfl, U.cap, _, _, _, rfl, rfl, SqL.of_eq r3, ix0 _ _ _ 3 rfl rfl, _, rfl, U.cap, _, _, 2, rfl, rfl, r3, rfl, ?_⟩
        have r4 : upd (upd (upd (upd H U.cap (.lst [.ref U.cell, .int (s.at_ + 1), .int s.cur, .int s.seed])) U.cap (.lst [.ref U.cell, .int (s.at_ + 1), .int (s.cells.getD (s.at_ + 1).toNat 0), .int s.seed])) U.cap (.lst [.ref U.cell, .int (s.at_ + 1), .int (s.cells.getD (s.at_ + 1).toNat 0), .int ((s.seed * 48271 + 11) % 2147483647)])) U.cap (.lst [.ref U.cell, .int (s.at_ + 1), .int ((s.seed * 48271 + 11) % 2147483647), .int ((s.seed * 48271 + 11) % 2147483647)]) U.cap = _ := upd_same
        have e4 : Ext U H (upd (upd (upd (upd H U.cap (.lst [.ref U.cell, .int (s.at_ + 1), .int s.cur, .int s.seed])) U.cap (.lst [.ref U.cell, .int (s.at_ + 1), .int (s.cells.getD (s.at_ + 1).toNat 0), .int s.seed])) U.cap (.lst [.ref U.cell, .int (s.at_ + 1), .int (s.cells.getD (s.at_ + 1).toNat 0), .int ((s.seed * 48271 + 11) % 2147483647)])) U.cap (.lst [.ref U.cell, .int (s.at_ + 1), .int ((s.seed * 48271 + 11) % 2147483647), .int ((s.seed * 48271 + 11) % 2147483647)])) := fun b u hb z => by rw [upd_ne hb]; exact e3 b u hb z
        refine ⟨_, rfl, U.cap, _, _, _, rfl, rfl, SqL.of_eq r4, ix0 _ _ _ 2 rfl rfl, .inl ⟨_, rfl, _, rfl, _, _, rfl, rfl, h1, ?_⟩⟩
        refine ⟨_, rfl, U.cap, _, _, _, rfl, rfl, SqL.of_eq r4, ix0 _ _ _ 2 rfl rfl, _, rfl, _, _, rfl, rfl, ⟨h1, h2⟩, _, rfl, U.cap, _, _, 2, rfl, rfl, r4, rfl, _, rfl, ?_⟩
        exact fin _ _ _ _ r4 e4 w2

      · have hg0 : ¬ (s.cells.getD (s.at_ + 1).toNat 0) = 0 := fun z => c2 (decide_eq_true (congrArg V.int z))
        have e : nextS s = ⟨s.cells, s.at_ + 1, (s.cells.getD (s.at_ + 1).toNat 0), s.seed⟩ := by
          unfold nextS
          rw [if_pos hc, if_pos ⟨hl, hg0⟩]
        rw [e] at w2
        refine ⟨_, rfl, U.cap, _, _, _, rfl, rfl, SqL.of_eq r2, ix0 _ _ _ 2 rfl rfl, .inl ⟨_, rfl, _, rfl, _, _, rfl, rfl, h1, ?_⟩⟩
        refine ⟨_, rfl, U.cap, _, _, _, rfl, rfl, SqL.of_eq r2, ix0 _ _ _ 2 rfl rfl, _, rfl, _, _, rfl, rfl, ⟨h1, h2⟩, _, rfl, U.cap, _, _, 2, rfl, rfl, r2, rfl, _, rfl, ?_⟩
        exact fin _ _ _ _ r2 e2 w2
    · have hl : ¬ s.at_ + 1 < (s.cells.length : Int) := fun z => c1 (by rw [List.length_map]; exact decide_eq_true z)
      have e : nextS s = ⟨s.cells, s.at_ + 1, (s.seed * 48271 + 11) % 2147483647, (s.seed * 48271 + 11) % 2147483647⟩ := by
        unfold nextS
        rw [if_pos hc, if_neg (fun z => hl z.1)]
      rw [e] at w2
      refine ⟨_, rfl, U.cap, _, _, _, rfl, rfl, SqL.of_eq r1, ix0 _ _ _ 2 rfl rfl, rfl, _, rfl, ?_⟩
      refine ite2 (fun c2 => ?_) (fun c2 => absurd (decide_eq_true (congrArg V.int hc)) c2)
      have r3 : upd (upd H U.cap (.lst [.ref U.cell, .int (s.at_ + 1), .int s.cur, .int s.seed])) U.cap (.lst [.ref U.cell, .int (s.at_ + 1), .int s.cur, .int ((s.seed * 48271 + 11) % 2147483647)]) U.cap = _ := upd_same
      have e3 : Ext U H (upd (upd H U.cap (.lst [.ref U.cell, .int (s.at_ + 1), .int s.cur, .int s.seed])) U.cap (.lst [.ref U.cell, .int (s.at_ + 1), .int s.cur, .int ((s.seed * 48271 + 11) % 2147483647)])) := fun b u hb z => by rw [upd_ne hb]; exact e1 b u hb z
      refine ⟨_, rfl, U.cap, _, _, _, rfl, rfl, SqL.of_eq r1, ix0 _ _ _ 3 rfl rfl, _, _, rfl, rfl, cm, _, _, rfl, rfl, .inl ⟨_, rfl, _, _, rfl, rfl, by show (0 : Int) < 2147483647; decide, _, rfl, U.cap, _, _, 3, rfl, rfl, r1, rfl, ?_⟩⟩
      refine ⟨_, rfl, U.cap, _, _, _, rfl, rfl, SqL.of_eq r3, ix0 _ _ _ 3 rfl rfl, _, rfl, U.cap, _, _, 2, rfl, rfl, r3, rfl, ?_⟩
      have r4 : upd (upd (upd H U.cap (.lst [.ref U.cell, .int (s.at_ + 1), .int s.cur, .int s.seed])) U.cap (.lst [.ref U.cell, .int (s.at_ + 1), .int s.cur, .int ((s.seed * 48271 + 11) % 2147483647)])) U.cap (.lst [.ref U.cell, .int (s.at_ + 1), .int ((s.seed * 48271 + 11) % 2147483647), .int ((s.seed * 48271 + 11) % 2147483647)]) U.cap = _ := upd_same
      have e4 : Ext U H (upd (upd (upd H U.cap (.lst [.ref U.cell, .int (s.at_ + 1), .int s.cur, .int s.seed])) U.cap (.lst [.ref U.cell, .int (s.at_ + 1), .int s.cur, .int ((s.seed * 48271 + 11) % 2147483647)])) U.cap (.lst [.ref U.cell, .int (s.at_ + 1), .int ((s.seed * 48271 + 11) % 2147483647), .int ((s.seed * 48271 + 11) % 2147483647)])) := fun b u hb z => by rw [upd_ne hb]; exact e3 b u hb z
      refine ⟨_, rfl, U.cap, _, _, _, rfl, rfl, SqL.of_eq r4, ix0 _ _ _ 2 rfl rfl, .inl ⟨_, rfl, _, rfl, _, _, rfl, rfl, h1, ?_⟩⟩
      refine ⟨_, rfl, U.cap, _, _, _, rfl, rfl, SqL.of_eq r4, ix0 _ _ _ 2 rfl rfl, _, rfl, _, _, rfl, rfl, ⟨h1, h2⟩, _, rfl, U.cap, _, _, 2, rfl, rfl, r4, rfl, _, rfl, ?_⟩
      exact fin _ _ _ _ r4 e4 w2

  · have hc : ¬ s.cur = 0 := fun z => c (by rw [z]; rfl)
    have e : nextS s = s := by unfold nextS; rw [if_neg hc]
    rw [e] at w2
    refine ⟨_, rfl, U.cap, _, _, _, rfl, rfl, SqL.of_eq rowH, ix0 _ _ _ 2 rfl rfl, .inl ⟨_, rfl, _, rfl, _, _, rfl, rfl, h1, ?_⟩⟩
    refine ⟨_, rfl, U.cap, _, _, _, rfl, rfl, SqL.of_eq rowH, ix0 _ _ _ 2 rfl rfl, _, rfl, _, _, rfl, rfl, ⟨h1, h2⟩, _, rfl, U.cap, _, _, 2, rfl, rfl, rowH, rfl, _, rfl, ?_⟩
    exact fin H s.at_ s.cur s.seed rowH Ext.refl w2
end
abbrev sDraw : Stmt := top 30
theorem scDraw : FnScope ["script", "seed", "cell"] ["script"] (defScope sDraw) := ⟨rfl, rfl, rfl, by decide +kernel, rfl, by decide +kernel, by decide +kernel⟩
section
variable {P : Program} {w : World} {K : PySem.W.Frag} {mg : Str → Option Value} {base : Heap}
theorem ok_draw {f : Addr} {fd : FuncData} (F : L2.Fun K "_law_draw" "_law_draw" sDraw f fd) (ma : mg "abs" = none) (mi : mg "int" = none) : FnOk P w K mg base (L2.CX P w) 1 f fd ["script"] (spDraw K) := by
  refine F.okX scDraw (fun vs H Q E h => by obtain ⟨a, ns, rfl, _⟩ := h; rfl) (fun cdv A outer s0 H vs Q E hr h => ?_)
  obtain ⟨a, ns, rfl, hS, h63, q⟩ := h
  refine ⟨_, pss_cons (ps_set (i := 1) scDraw.nd rfl (Or.inl rfl) pe_int)
    (pss_cons (ps_for (passes_of rfl) rfl (pi_list (pv 0)) (pg_name (i := 2) scDraw.nd rfl (Or.inl rfl)) (pss_one (ps_set (i := 1) scDraw.nd rfl (Or.inl rfl)
      (pe_op op_mod (pe_callTy call_int1 rfl mi (by decide +kernel) (pa_cons (pe_op op_add (pe_op op_add (pe_op op_mulW (pv 1) pe_int) (pe_op op_mod (pe_callB call_abs rfl ma boot_abs (pa_cons (pe_callTy call_int1 rfl mi (by decide +kernel) (pa_cons (pv 2) pa_nil)) pa_nil)) pe_int)) pe_int) pa_nil)) pe_int))))
    (pss_one (ps_ret (pe_lst (pa_cons (pe_lc rfl scDraw.nd (pi_list (pv 0)) (own := [("cell", 2)]) (blkOk_by (by rfl)) (fun _ _ _ _ _ => pg_name (i := 2) scDraw.nd rfl (Or.inl rfl)) (fun _ _ _ _ _ => pts_nil) (fun _ _ _ _ _ => pe_callB call_abs rfl ma boot_abs (pa_cons (pe_callTy call_int1 rfl mi (by decide +kernel) (pa_cons (pv 2) pa_nil)) pa_nil)))
      (pa_cons (pe_un un_neg pe_int) (pa_cons pe_int (pa_cons (pv 1) pa_nil)))))))), ?_⟩
  refine ⟨_, rfl, a, rfl, ⟨_, hS⟩, for_list (xs := ns.map V.int) (fun i σ H' => H' = H ∧ ∃ sd x, 0 ≤ sd ∧ sd < 2147483647 ∧ σ = [some (.ref a), some (.int sd), x]) ⟨rfl, 7, none, by decide, by decide, rfl⟩ (fun i σ H' _ ⟨e, _⟩ => by rw [e]; exact hS) (fun i x σ H' hx ⟨e, sd, y, g0, g1, es⟩ => ?_) fun σ H' ⟨e, sd, y, g0, g1, es⟩ => ?_⟩
  · obtain ⟨n, hn, rfl⟩ : ∃ n, ns[i]? = some n ∧ V.int n = x := by rw [List.getElem?_map, Option.map_eq_some_iff] at hx; exact hx
    subst es
    have cm : CMulW sd 48271 := by
      unfold CMulW
      have a1 : sd.natAbs < 2 ^ 31 := by omega
      have a2 := PySem.Flt.log2_lt_of (by decide) a1
      have a3 : (48271 : Int).natAbs.log2 = 15 := by decide +kernel
      omega
    refine ⟨_, rfl, _, _, rfl, rfl, cm, _, rfl, .inl ⟨_, rfl, _, rfl, _, _, rfl, rfl, by show (0 : Int) < 65521; decide, _, _, rfl, rfl, _, _, rfl, rfl, .inl ⟨_, rfl, _, _, rfl, rfl, by show (0 : Int) < 2147483647; decide, e, _, _, ?_, ?_, rfl⟩⟩⟩
    · exact Int.emod_nonneg _ (by decide)
    · exact Int.emod_lt_of_pos _ (by decide)
  · subst es
    subst e
    refine ⟨_, rfl, a, rfl, ⟨_, hS⟩, fun c hc => lc_list (xs := ns.map V.int) (fun i H2 => H2 = upd H' c (.lst (((ns.take i).map fun n => if n < 0 then -n else n).map V.int))) rfl (fun i H2 _ e => ?_) (fun i x H2 hx e => ?_) fun H2 e => ?_⟩
    · rw [e]
      exact (show Same H' (upd H' c _) from fun b u z => by rw [upd_ne (ne_of_none z hc)]; exact z).seq hS
    · obtain ⟨n, hn, rfl⟩ : ∃ n, ns[i]? = some n ∧ V.int n = x := by rw [List.getElem?_map, Option.map_eq_some_iff] at hx; exact hx
      refine ⟨rfl, iteT (B := H2 = upd H' c (.lst (((ns.take (i + 1)).map fun n => if n < 0 then -n else n).map V.int))) ⟨_, rfl, .inl ⟨_, rfl, _, rfl, _, by rw [e]; exact upd_same, ?_, ?_⟩⟩⟩
      · rw [List.length_map, List.length_map, List.length_take]
        exact Nat.lt_of_lt_of_le (by omega : _ < 100) (by decide)
      · rw [e]
        have ht : ns.take (i + 1) = ns.take i ++ [n] := by
          rw [List.take_add_one, hn]; rfl
        rw [ht, List.map_append, List.map_append]
        exact upd_upd
    · have e : H2 = upd H' c (.lst ((ns.map fun n => if n < 0 then -n else n).map V.int)) := by rw [List.length_map, List.take_length] at e; exact e
      subst e
      refine ⟨_, rfl, _, rfl, by show 4 ≤ sizeLine; decide, fun p hp => ?_⟩
      have hpc : p ≠ c := fun z => by rw [z, upd_same] at hp; cases hp
      exact q p c _ sd hpc (fun b u hb => by rw [upd_ne (ne_of_none (by rw [upd_ne (ne_of_none hb hc)]; exact hb) hp), upd_ne (ne_of_none hb hc)]; exact hb) g0 g1 upd_same (by rw [upd_ne (fun z => hpc z.symm)]; exact upd_same)
end

theorem sc_is_whole : FnScope F_is_whole.N F_is_whole.ps (defScope (top 4)) := ⟨rfl, rfl, rfl, by decide +kernel, rfl, by decide +kernel, by decide +kernel⟩
theorem sc_common : FnScope F_common.N F_common.ps (defScope (top 5)) := ⟨rfl, rfl, rfl, by decide +kernel, rfl, by decide +kernel, by decide +kernel⟩
theorem sc_lowest : FnScope F_lowest.N F_lowest.ps (defScope (top 6)) := ⟨rfl, rfl, rfl, by decide +kernel, rfl, by decide +kernel, by decide +kernel⟩
theorem sc_is_ratio : FnScope F_is_ratio.N F_is_ratio.ps (defScope (top 7)) := ⟨rfl, rfl, rfl, by decide +kernel, rfl, by decide +kernel, by decide +kernel⟩
theorem sc_is_draw : FnScope F_is_draw.N F_is_draw.ps (defScope (top 11)) := ⟨rfl, rfl, rfl, by decide +kernel, rfl, by decide +kernel, by decide +kernel⟩
theorem sc_check_draw : FnScope F_check_draw.N F_check_draw.ps (defScope (top 12)) := ⟨rfl, rfl, rfl, by decide +kernel, rfl, by decide +kernel, by decide +kernel⟩
theorem sc_check_number : FnScope F_check_number.N F_check_number.ps (defScope (top 13)) := ⟨rfl, rfl, rfl, by decide +kernel, rfl, by decide +kernel, by decide +kernel⟩
theorem sc_draw_of : FnScope F_draw_of.N F_draw_of.ps (defScope (top 14)) := ⟨rfl, rfl, rfl, by decide +kernel, rfl, by decide +kernel, by decide +kernel⟩
theorem sc_plain : FnScope F_plain.N F_plain.ps (defScope (top 15)) := ⟨rfl, rfl, rfl, by decide +kernel, rfl, by decide +kernel, by decide +kernel⟩
theorem sc_chance : FnScope F_chance.N F_chance.ps (defScope (top 16)) := ⟨rfl, rfl, rfl, by decide +kernel, rfl, by decide +kernel, by decide +kernel⟩
theorem sc_above : FnScope F_above.N F_above.ps (defScope (top 17)) := ⟨rfl, rfl, rfl, by decide +kernel, rfl, by decide +kernel, by decide +kernel⟩
theorem sc_upto : FnScope F_upto.N F_upto.ps (defScope (top 18)) := ⟨rfl, rfl, rfl, by decide +kernel, rfl, by decide +kernel, by decide +kernel⟩
theorem sc_excess : FnScope F_excess.N F_excess.ps (defScope (top 19)) := ⟨rfl, rfl, rfl, by decide +kernel, rfl, by decide +kernel, by decide +kernel⟩
theorem sc_lack : FnScope F_lack.N F_lack.ps (defScope (top 20)) := ⟨rfl, rfl, rfl, by decide +kernel, rfl, by decide +kernel, by decide +kernel⟩
theorem sc_mean : FnScope F_mean.N F_mean.ps (defScope (top 21)) := ⟨rfl, rfl, rfl, by decide +kernel, rfl, by decide +kernel, by decide +kernel⟩
theorem sc_variance : FnScope F_variance.N F_variance.ps (defScope (top 22)) := ⟨rfl, rfl, rfl, by decide +kernel, rfl, by decide +kernel, by decide +kernel⟩
theorem sc_power_mean : FnScope F_power_mean.N F_power_mean.ps (defScope (top 23)) := ⟨rfl, rfl, rfl, by decide +kernel, rfl, by decide +kernel, by decide +kernel⟩
theorem sc_least_number : FnScope F_least_number.N F_least_number.ps (defScope (top 24)) := ⟨rfl, rfl, rfl, by decide +kernel, rfl, by decide +kernel, by decide +kernel⟩
theorem sc_middle_number : FnScope F_middle_number.N F_middle_number.ps (defScope (top 25)) := ⟨rfl, rfl, rfl, by decide +kernel, rfl, by decide +kernel, by decide +kernel⟩
theorem sc_common_rows : FnScope F_common_rows.N F_common_rows.ps (defScope (top 26)) := ⟨rfl, rfl, rfl, by decide +kernel, rfl, by decide +kernel, by decide +kernel⟩
theorem sc_both : FnScope F_both.N F_both.ps (defScope (top 27)) := ⟨rfl, rfl, rfl, by decide +kernel, rfl, by decide +kernel, by decide +kernel⟩
theorem sc_has_mean : FnScope F_has_mean.N F_has_mean.ps (defScope (top 28)) := ⟨rfl, rfl, rfl, by decide +kernel, rfl, by decide +kernel, by decide +kernel⟩
theorem sc__law_says : FnScope F__law_says.N F__law_says.ps (defScope (top 32)) := ⟨rfl, rfl, rfl, by decide +kernel, rfl, by decide +kernel, by decide +kernel⟩
theorem sc__law_some : FnScope F__law_some.N F__law_some.ps (defScope (top 33)) := ⟨rfl, rfl, rfl, by decide +kernel, rfl, by decide +kernel, by decide +kernel⟩
theorem sc__law_near : FnScope F__law_near.N F__law_near.ps (defScope (top 34)) := ⟨rfl, rfl, rfl, by decide +kernel, rfl, by decide +kernel, by decide +kernel⟩
theorem sc__law_pair : FnScope F__law_pair.N F__law_pair.ps (defScope (top 35)) := ⟨rfl, rfl, rfl, by decide +kernel, rfl, by decide +kernel, by decide +kernel⟩
theorem sc__law_both : FnScope F__law_both.N F__law_both.ps (defScope (top 36)) := ⟨rfl, rfl, rfl, by decide +kernel, rfl, by decide +kernel, by decide +kernel⟩
theorem sc__law_gcd : FnScope F__law_gcd.N F__law_gcd.ps (defScope (top 37)) := ⟨rfl, rfl, rfl, by decide +kernel, rfl, by decide +kernel, by decide +kernel⟩
theorem sc__law_low : FnScope F__law_low.N F__law_low.ps (defScope (top 38)) := ⟨rfl, rfl, rfl, by decide +kernel, rfl, by decide +kernel, by decide +kernel⟩
theorem sc__law_is_draw : FnScope F__law_is_draw.N F__law_is_draw.ps (defScope (top 39)) := ⟨rfl, rfl, rfl, by decide +kernel, rfl, by decide +kernel, by decide +kernel⟩
theorem sc__law_told : FnScope F__law_told.N F__law_told.ps (defScope (top 40)) := ⟨rfl, rfl, rfl, by decide +kernel, rfl, by decide +kernel, by decide +kernel⟩
theorem sc__law_bent : FnScope F__law_bent.N F__law_bent.ps (defScope (top 41)) := ⟨rfl, rfl, rfl, by decide +kernel, rfl, by decide +kernel, by decide +kernel⟩
theorem sc_law : FnScope nLaw ["script"] (defScope (top 42)) := ⟨rfl, rfl, rfl, by decide +kernel, rfl, by decide +kernel, by decide +kernel⟩
/-- what the top leaves -/
structure AllIn (K : PySem.W.Frag) : Prop where
  d_is_whole : DefIn K "is_whole" (top 4)
  d_common : DefIn K "common" (top 5)
  d_lowest : DefIn K "lowest" (top 6)
  d_is_ratio : DefIn K "is_ratio" (top 7)
  d_is_draw : DefIn K "is_draw" (top 11)
  d_check_draw : DefIn K "check_draw" (top 12)
  d_check_number : DefIn K "check_number" (top 13)
  d_draw_of : DefIn K "draw_of" (top 14)
  d_plain : DefIn K "plain" (top 15)
  d_chance : DefIn K "chance" (top 16)
  d_above : DefIn K "above" (top 17)
  d_upto : DefIn K "upto" (top 18)
  d_excess : DefIn K "excess" (top 19)
  d_lack : DefIn K "lack" (top 20)
  d_mean : DefIn K "mean" (top 21)
  d_variance : DefIn K "variance" (top 22)
  d_power_mean : DefIn K "power_mean" (top 23)
  d_least_number : DefIn K "least_number" (top 24)
  d_middle_number : DefIn K "middle_number" (top 25)
  d_common_rows : DefIn K "common_rows" (top 26)
  d_both : DefIn K "both" (top 27)
  d_has_mean : DefIn K "has_mean" (top 28)
  d__law_says : DefIn K "_law_says" (top 32)
  d__law_some : DefIn K "_law_some" (top 33)
  d__law_near : DefIn K "_law_near" (top 34)
  d__law_pair : DefIn K "_law_pair" (top 35)
  d__law_both : DefIn K "_law_both" (top 36)
  d__law_gcd : DefIn K "_law_gcd" (top 37)
  d__law_low : DefIn K "_law_low" (top 38)
  d__law_is_draw : DefIn K "_law_is_draw" (top 39)
  d__law_told : DefIn K "_law_told" (top 40)
  d__law_bent : DefIn K "_law_bent" (top 41)
  d_take : DefIn K "_law_take" (top 31)
  d_draw : DefIn K "_law_draw" (top 30)
  d_law : DefIn K "law" (top 42)
  b_abs : PySem.W.nsIn K mainGlobals "abs" = some none
  b_all : PySem.W.nsIn K mainGlobals "all" = some none
  b_bool : PySem.W.nsIn K mainGlobals "bool" = some none
  b_enumerate : PySem.W.nsIn K mainGlobals "enumerate" = some none
  b_int : PySem.W.nsIn K mainGlobals "int" = some none
  b_isinstance : PySem.W.nsIn K mainGlobals "isinstance" = some none
  b_len : PySem.W.nsIn K mainGlobals "len" = some none
  b_list : PySem.W.nsIn K mainGlobals "list" = some none
  b_max : PySem.W.nsIn K mainGlobals "max" = some none
  b_min : PySem.W.nsIn K mainGlobals "min" = some none
  b_range : PySem.W.nsIn K mainGlobals "range" = some none
  b_sum : PySem.W.nsIn K mainGlobals "sum" = some none
  b_tuple : PySem.W.nsIn K mainGlobals "tuple" = some none
  c_MOST_NUMBER : ∃ u, PySem.W.nsIn K mainGlobals "MOST_NUMBER" = some (some u) ∧ ItIn K (.int 30) u
  c_MOST_WEIGHT : ∃ u, PySem.W.nsIn K mainGlobals "MOST_WEIGHT" = some (some u) ∧ ItIn K (.int 1000000) u
  bVE : PySem.W.nsIn K mainGlobals "ValueError" = some none
  ex : ∃ CF : Addr, PySem.W.nsIn K mainGlobals "Fault" = some (some (.ref CF)) ∧ PySem.W.hasDictIn K CF = true ∧ PySem.W.typeIn K (.ref CF) = some (.type "type") ∧
    ∃ C_Malformed : Addr, ExIn K "Malformed" C_Malformed ∧ PySem.W.subIn K (.ref C_Malformed) (.ref CF) = some true ∧ PySem.W.subIn K (.ref C_Malformed) (.type "ValueError") = some true ∧ PySem.W.subIn K (.ref C_Malformed) (.ref C_Malformed) = some true
theorem ex_mk {K : PySem.W.Frag} {CF C_Malformed : Addr} (aF : PySem.W.nsIn K mainGlobals "Fault" = some (some (.ref CF))) (dF : PySem.W.hasDictIn K CF = true) (tF : PySem.W.typeIn K (.ref CF) = some (.type "type"))
    (e_Malformed : ExIn K "Malformed" C_Malformed) (f_Malformed : PySem.W.subIn K (.ref C_Malformed) (.ref CF) = some true) (v_Malformed : PySem.W.subIn K (.ref C_Malformed) (.type "ValueError") = some true) (s_Malformed_Malformed : PySem.W.subIn K (.ref C_Malformed) (.ref C_Malformed) = some true) : ∃ CF : Addr, PySem.W.nsIn K mainGlobals "Fault" = some (some (.ref CF)) ∧ PySem.W.hasDictIn K CF = true ∧ PySem.W.typeIn K (.ref CF) = some (.type "type") ∧
    ∃ C_Malformed : Addr, ExIn K "Malformed" C_Malformed ∧ PySem.W.subIn K (.ref C_Malformed) (.ref CF) = some true ∧ PySem.W.subIn K (.ref C_Malformed) (.type "ValueError") = some true ∧ PySem.W.subIn K (.ref C_Malformed) (.ref C_Malformed) = some true :=
  ⟨CF, aF, dF, tF, C_Malformed, e_Malformed, f_Malformed, v_Malformed, s_Malformed_Malformed⟩
section
variable {P0 : Program} {w : World} {K : PySem.W.Frag} {mg : Str → Option Value} {h base : Heap}
theorem bd_is_whole (kV doc pm : Value) (an : Option Addr) (cdv ct : Value) (us : List Value) (hl : us.length = (F_is_whole.ps : List Str).length) : bindArgs (PySem.W.fnOf "is_whole" "is_whole" (defArgs (top 4)) (defBody (top 4)) (defScope (top 4)) .none kV doc pm an cdv ct) ⟨us, []⟩ = pure ((F_is_whole.ps : List Str).zip us) := match us, hl with | [_], _ => rfl
theorem bd_common (kV doc pm : Value) (an : Option Addr) (cdv ct : Value) (us : List Value) (hl : us.length = (F_common.ps : List Str).length) : bindArgs (PySem.W.fnOf "common" "common" (defArgs (top 5)) (defBody (top 5)) (defScope (top 5)) .none kV doc pm an cdv ct) ⟨us, []⟩ = pure ((F_common.ps : List Str).zip us) := match us, hl with | [_, _], _ => rfl
theorem bd_lowest (kV doc pm : Value) (an : Option Addr) (cdv ct : Value) (us : List Value) (hl : us.length = (F_lowest.ps : List Str).length) : bindArgs (PySem.W.fnOf "lowest" "lowest" (defArgs (top 6)) (defBody (top 6)) (defScope (top 6)) .none kV doc pm an cdv ct) ⟨us, []⟩ = pure ((F_lowest.ps : List Str).zip us) := match us, hl with | [_, _], _ => rfl
theorem bd_is_ratio (kV doc pm : Value) (an : Option Addr) (cdv ct : Value) (us : List Value) (hl : us.length = (F_is_ratio.ps : List Str).length) : bindArgs (PySem.W.fnOf "is_ratio" "is_ratio" (defArgs (top 7)) (defBody (top 7)) (defScope (top 7)) .none kV doc pm an cdv ct) ⟨us, []⟩ = pure ((F_is_ratio.ps : List Str).zip us) := match us, hl with | [_], _ => rfl
theorem bd_is_draw (kV doc pm : Value) (an : Option Addr) (cdv ct : Value) (us : List Value) (hl : us.length = (F_is_draw.ps : List Str).length) : bindArgs (PySem.W.fnOf "is_draw" "is_draw" (defArgs (top 11)) (defBody (top 11)) (defScope (top 11)) .none kV doc pm an cdv ct) ⟨us, []⟩ = pure ((F_is_draw.ps : List Str).zip us) := match us, hl with | [_], _ => rfl
theorem bd_check_draw (kV doc pm : Value) (an : Option Addr) (cdv ct : Value) (us : List Value) (hl : us.length = (F_check_draw.ps : List Str).length) : bindArgs (PySem.W.fnOf "check_draw" "check_draw" (defArgs (top 12)) (defBody (top 12)) (defScope (top 12)) .none kV doc pm an cdv ct) ⟨us, []⟩ = pure ((F_check_draw.ps : List Str).zip us) := match us, hl with | [_], _ => rfl
theorem bd_check_number (kV doc pm : Value) (an : Option Addr) (cdv ct : Value) (us : List Value) (hl : us.length = (F_check_number.ps : List Str).length) : bindArgs (PySem.W.fnOf "check_number" "check_number" (defArgs (top 13)) (defBody (top 13)) (defScope (top 13)) .none kV doc pm an cdv ct) ⟨us, []⟩ = pure ((F_check_number.ps : List Str).zip us) := match us, hl with | [_], _ => rfl
theorem bd_draw_of (kV doc pm : Value) (an : Option Addr) (cdv ct : Value) (us : List Value) (hl : us.length = (F_draw_of.ps : List Str).length) : bindArgs (PySem.W.fnOf "draw_of" "draw_of" (defArgs (top 14)) (defBody (top 14)) (defScope (top 14)) .none kV doc pm an cdv ct) ⟨us, []⟩ = pure ((F_draw_of.ps : List Str).zip us) := match us, hl with | [_], _ => rfl
theorem bd_plain (kV doc pm : Value) (an : Option Addr) (cdv ct : Value) (us : List Value) (hl : us.length = (F_plain.ps : List Str).length) : bindArgs (PySem.W.fnOf "plain" "plain" (defArgs (top 15)) (defBody (top 15)) (defScope (top 15)) .none kV doc pm an cdv ct) ⟨us, []⟩ = pure ((F_plain.ps : List Str).zip us) := match us, hl with | [_], _ => rfl
theorem bd_chance (kV doc pm : Value) (an : Option Addr) (cdv ct : Value) (us : List Value) (hl : us.length = (F_chance.ps : List Str).length) : bindArgs (PySem.W.fnOf "chance" "chance" (defArgs (top 16)) (defBody (top 16)) (defScope (top 16)) .none kV doc pm an cdv ct) ⟨us, []⟩ = pure ((F_chance.ps : List Str).zip us) := match us, hl with | [_, _], _ => rfl
theorem bd_above (kV doc pm : Value) (an : Option Addr) (cdv ct : Value) (us : List Value) (hl : us.length = (F_above.ps : List Str).length) : bindArgs (PySem.W.fnOf "above" "above" (defArgs (top 17)) (defBody (top 17)) (defScope (top 17)) .none kV doc pm an cdv ct) ⟨us, []⟩ = pure ((F_above.ps : List Str).zip us) := match us, hl with | [_, _], _ => rfl
theorem bd_upto (kV doc pm : Value) (an : Option Addr) (cdv ct : Value) (us : List Value) (hl : us.length = (F_upto.ps : List Str).length) : bindArgs (PySem.W.fnOf "upto" "upto" (defArgs (top 18)) (defBody (top 18)) (defScope (top 18)) .none kV doc pm an cdv ct) ⟨us, []⟩ = pure ((F_upto.ps : List Str).zip us) := match us, hl with | [_, _], _ => rfl
theorem bd_excess (kV doc pm : Value) (an : Option Addr) (cdv ct : Value) (us : List Value) (hl : us.length = (F_excess.ps : List Str).length) : bindArgs (PySem.W.fnOf "excess" "excess" (defArgs (top 19)) (defBody (top 19)) (defScope (top 19)) .none kV doc pm an cdv ct) ⟨us, []⟩ = pure ((F_excess.ps : List Str).zip us) := match us, hl with | [_, _], _ => rfl
theorem bd_lack (kV doc pm : Value) (an : Option Addr) (cdv ct : Value) (us : List Value) (hl : us.length = (F_lack.ps : List Str).length) : bindArgs (PySem.W.fnOf "lack" "lack" (defArgs (top 20)) (defBody (top 20)) (defScope (top 20)) .none kV doc pm an cdv ct) ⟨us, []⟩ = pure ((F_lack.ps : List Str).zip us) := match us, hl with | [_, _], _ => rfl
theorem bd_mean (kV doc pm : Value) (an : Option Addr) (cdv ct : Value) (us : List Value) (hl : us.length = (F_mean.ps : List Str).length) : bindArgs (PySem.W.fnOf "mean" "mean" (defArgs (top 21)) (defBody (top 21)) (defScope (top 21)) .none kV doc pm an cdv ct) ⟨us, []⟩ = pure ((F_mean.ps : List Str).zip us) := match us, hl with | [_], _ => rfl
theorem bd_variance (kV doc pm : Value) (an : Option Addr) (cdv ct : Value) (us : List Value) (hl : us.length = (F_variance.ps : List Str).length) : bindArgs (PySem.W.fnOf "variance" "variance" (defArgs (top 22)) (defBody (top 22)) (defScope (top 22)) .none kV doc pm an cdv ct) ⟨us, []⟩ = pure ((F_variance.ps : List Str).zip us) := match us, hl with | [_], _ => rfl
theorem bd_power_mean (kV doc pm : Value) (an : Option Addr) (cdv ct : Value) (us : List Value) (hl : us.length = (F_power_mean.ps : List Str).length) : bindArgs (PySem.W.fnOf "power_mean" "power_mean" (defArgs (top 23)) (defBody (top 23)) (defScope (top 23)) .none kV doc pm an cdv ct) ⟨us, []⟩ = pure ((F_power_mean.ps : List Str).zip us) := match us, hl with | [_, _], _ => rfl
theorem bd_least_number (kV doc pm : Value) (an : Option Addr) (cdv ct : Value) (us : List Value) (hl : us.length = (F_least_number.ps : List Str).length) : bindArgs (PySem.W.fnOf "least_number" "least_number" (defArgs (top 24)) (defBody (top 24)) (defScope (top 24)) .none kV doc pm an cdv ct) ⟨us, []⟩ = pure ((F_least_number.ps : List Str).zip us) := match us, hl with | [_], _ => rfl
theorem bd_middle_number (kV doc pm : Value) (an : Option Addr) (cdv ct : Value) (us : List Value) (hl : us.length = (F_middle_number.ps : List Str).length) : bindArgs (PySem.W.fnOf "middle_number" "middle_number" (defArgs (top 25)) (defBody (top 25)) (defScope (top 25)) .none kV doc pm an cdv ct) ⟨us, []⟩ = pure ((F_middle_number.ps : List Str).zip us) := match us, hl with | [_], _ => rfl
theorem bd_common_rows (kV doc pm : Value) (an : Option Addr) (cdv ct : Value) (us : List Value) (hl : us.length = (F_common_rows.ps : List Str).length) : bindArgs (PySem.W.fnOf "common_rows" "common_rows" (defArgs (top 26)) (defBody (top 26)) (defScope (top 26)) .none kV doc pm an cdv ct) ⟨us, []⟩ = pure ((F_common_rows.ps : List Str).zip us) := match us, hl with | [_, _], _ => rfl
theorem bd_both (kV doc pm : Value) (an : Option Addr) (cdv ct : Value) (us : List Value) (hl : us.length = (F_both.ps : List Str).length) : bindArgs (PySem.W.fnOf "both" "both" (defArgs (top 27)) (defBody (top 27)) (defScope (top 27)) .none kV doc pm an cdv ct) ⟨us, []⟩ = pure ((F_both.ps : List Str).zip us) := match us, hl with | [_, _], _ => rfl
theorem bd_has_mean (kV doc pm : Value) (an : Option Addr) (cdv ct : Value) (us : List Value) (hl : us.length = (F_has_mean.ps : List Str).length) : bindArgs (PySem.W.fnOf "has_mean" "has_mean" (defArgs (top 28)) (defBody (top 28)) (defScope (top 28)) .none kV doc pm an cdv ct) ⟨us, []⟩ = pure ((F_has_mean.ps : List Str).zip us) := match us, hl with | [_, _], _ => rfl
theorem bd__law_says (kV doc pm : Value) (an : Option Addr) (cdv ct : Value) (us : List Value) (hl : us.length = (F__law_says.ps : List Str).length) : bindArgs (PySem.W.fnOf "_law_says" "_law_says" (defArgs (top 32)) (defBody (top 32)) (defScope (top 32)) .none kV doc pm an cdv ct) ⟨us, []⟩ = pure ((F__law_says.ps : List Str).zip us) := match us, hl with | [_, _], _ => rfl
theorem bd__law_some (kV doc pm : Value) (an : Option Addr) (cdv ct : Value) (us : List Value) (hl : us.length = (F__law_some.ps : List Str).length) : bindArgs (PySem.W.fnOf "_law_some" "_law_some" (defArgs (top 33)) (defBody (top 33)) (defScope (top 33)) .none kV doc pm an cdv ct) ⟨us, []⟩ = pure ((F__law_some.ps : List Str).zip us) := match us, hl with | [_, _, _], _ => rfl
theorem bd__law_near (kV doc pm : Value) (an : Option Addr) (cdv ct : Value) (us : List Value) (hl : us.length = (F__law_near.ps : List Str).length) : bindArgs (PySem.W.fnOf "_law_near" "_law_near" (defArgs (top 34)) (defBody (top 34)) (defScope (top 34)) .none kV doc pm an cdv ct) ⟨us, []⟩ = pure ((F__law_near.ps : List Str).zip us) := match us, hl with | [_, _], _ => rfl
theorem bd__law_pair (kV doc pm : Value) (an : Option Addr) (cdv ct : Value) (us : List Value) (hl : us.length = (F__law_pair.ps : List Str).length) : bindArgs (PySem.W.fnOf "_law_pair" "_law_pair" (defArgs (top 35)) (defBody (top 35)) (defScope (top 35)) .none kV doc pm an cdv ct) ⟨us, []⟩ = pure ((F__law_pair.ps : List Str).zip us) := match us, hl with | [_, _, _], _ => rfl
theorem bd__law_both (kV doc pm : Value) (an : Option Addr) (cdv ct : Value) (us : List Value) (hl : us.length = (F__law_both.ps : List Str).length) : bindArgs (PySem.W.fnOf "_law_both" "_law_both" (defArgs (top 36)) (defBody (top 36)) (defScope (top 36)) .none kV doc pm an cdv ct) ⟨us, []⟩ = pure ((F__law_both.ps : List Str).zip us) := match us, hl with | [_, _], _ => rfl
theorem bd__law_gcd (kV doc pm : Value) (an : Option Addr) (cdv ct : Value) (us : List Value) (hl : us.length = (F__law_gcd.ps : List Str).length) : bindArgs (PySem.W.fnOf "_law_gcd" "_law_gcd" (defArgs (top 37)) (defBody (top 37)) (defScope (top 37)) .none kV doc pm an cdv ct) ⟨us, []⟩ = pure ((F__law_gcd.ps : List Str).zip us) := match us, hl with | [_, _], _ => rfl
theorem bd__law_low (kV doc pm : Value) (an : Option Addr) (cdv ct : Value) (us : List Value) (hl : us.length = (F__law_low.ps : List Str).length) : bindArgs (PySem.W.fnOf "_law_low" "_law_low" (defArgs (top 38)) (defBody (top 38)) (defScope (top 38)) .none kV doc pm an cdv ct) ⟨us, []⟩ = pure ((F__law_low.ps : List Str).zip us) := match us, hl with | [_, _], _ => rfl
theorem bd__law_is_draw (kV doc pm : Value) (an : Option Addr) (cdv ct : Value) (us : List Value) (hl : us.length = (F__law_is_draw.ps : List Str).length) : bindArgs (PySem.W.fnOf "_law_is_draw" "_law_is_draw" (defArgs (top 39)) (defBody (top 39)) (defScope (top 39)) .none kV doc pm an cdv ct) ⟨us, []⟩ = pure ((F__law_is_draw.ps : List Str).zip us) := match us, hl with | [_], _ => rfl
theorem bd__law_told (kV doc pm : Value) (an : Option Addr) (cdv ct : Value) (us : List Value) (hl : us.length = (F__law_told.ps : List Str).length) : bindArgs (PySem.W.fnOf "_law_told" "_law_told" (defArgs (top 40)) (defBody (top 40)) (defScope (top 40)) .none kV doc pm an cdv ct) ⟨us, []⟩ = pure ((F__law_told.ps : List Str).zip us) := match us, hl with | [_, _, _], _ => rfl
theorem bd__law_bent (kV doc pm : Value) (an : Option Addr) (cdv ct : Value) (us : List Value) (hl : us.length = (F__law_bent.ps : List Str).length) : bindArgs (PySem.W.fnOf "_law_bent" "_law_bent" (defArgs (top 41)) (defBody (top 41)) (defScope (top 41)) .none kV doc pm an cdv ct) ⟨us, []⟩ = pure ((F__law_bent.ps : List Str).zip us) := match us, hl with | [_, _], _ => rfl
theorem bd__law_take (kV doc pm : Value) (an : Option Addr) (cdv ct : Value) (us : List Value) (hl : us.length = (["draw", "many"] : List Str).length) : bindArgs (PySem.W.fnOf "_law_take" "_law_take" (defArgs (top 31)) (defBody (top 31)) (defScope (top 31)) .none kV doc pm an cdv ct) ⟨us, []⟩ = pure ((["draw", "many"] : List Str).zip us) := match us, hl with | [_, _], _ => rfl
theorem bd__law_draw (kV doc pm : Value) (an : Option Addr) (cdv ct : Value) (us : List Value) (hl : us.length = (["script"] : List Str).length) : bindArgs (PySem.W.fnOf "_law_draw" "_law_draw" (defArgs (top 30)) (defBody (top 30)) (defScope (top 30)) .none kV doc pm an cdv ct) ⟨us, []⟩ = pure ((["script"] : List Str).zip us) := match us, hl with | [_], _ => rfl
theorem bd_law (kV doc pm : Value) (an : Option Addr) (cdv ct : Value) (us : List Value) (hl : us.length = (["script"] : List Str).length) : bindArgs (PySem.W.fnOf "law" "law" (defArgs (top 42)) (defBody (top 42)) (defScope (top 42)) .none kV doc pm an cdv ct) ⟨us, []⟩ = pure ((["script"] : List Str).zip us) := match us, hl with | [_], _ => rfl
theorem pg_ok (A : AllIn K) (X : K.In h) (G : h.Ns mainGlobals mg) (cap cell : Addr) : PgOk ⟨P0, w, K, mg, base, cap, cell⟩ P 1 := by
  refine ⟨fun j call => ⟨fun x d hx => ?_, fun x hx => ?_, fun c hc => ?_, fun x F b hx => ?_⟩, fun x F hp hF => ?_, fun x p hp => ?_⟩
  · have hx := lookup_mem (show cstT.lookup x = some d from hx)
    simp only [cstT, List.mem_cons, List.mem_nil_iff, or_false, List.not_mem_nil, Prod.mk.injEq] at hx
    rcases hx with ⟨rfl, rfl⟩ | ⟨rfl, rfl⟩
    · obtain ⟨u, a, i⟩ := A.c_MOST_NUMBER
      obtain ⟨v, r1, r2⟩ := ItIn.rp (U := ⟨P0, w, K, mg, base, cap, cell⟩) _ _ i
      exact ⟨u, v, PySem.W.mg_of X G a, r1, r2⟩
    · obtain ⟨u, a, i⟩ := A.c_MOST_WEIGHT
      obtain ⟨v, r1, r2⟩ := ItIn.rp (U := ⟨P0, w, K, mg, base, cap, cell⟩) _ _ i
      exact ⟨u, v, PySem.W.mg_of X G a, r1, r2⟩
  · have hx : x ∈ bareT := of_decide_eq_true hx
    simp only [bareT, List.mem_cons, List.mem_nil_iff, or_false, List.not_mem_nil, Prod.mk.injEq] at hx
    rcases hx with rfl | rfl | rfl | rfl | rfl | rfl | rfl | rfl | rfl | rfl | rfl | rfl | rfl
    · exact PySem.W.mg_none_of X G A.b_abs
    · exact PySem.W.mg_none_of X G A.b_all
    · exact PySem.W.mg_none_of X G A.b_bool
    · exact PySem.W.mg_none_of X G A.b_enumerate
    · exact PySem.W.mg_none_of X G A.b_int
    · exact PySem.W.mg_none_of X G A.b_isinstance
    · exact PySem.W.mg_none_of X G A.b_len
    · exact PySem.W.mg_none_of X G A.b_list
    · exact PySem.W.mg_none_of X G A.b_max
    · exact PySem.W.mg_none_of X G A.b_min
    · exact PySem.W.mg_none_of X G A.b_range
    · exact PySem.W.mg_none_of X G A.b_sum
    · exact PySem.W.mg_none_of X G A.b_tuple
  · have hc : c ∈ excT := of_decide_eq_true hc
    obtain ⟨CF, aF, dF, tF, C_Malformed, E_Malformed, f_Malformed, v_Malformed, s_Malformed_Malformed⟩ := A.ex
    simp only [excT, List.mem_cons, List.mem_nil_iff, or_false, List.not_mem_nil, Prod.mk.injEq] at hc
    rcases hc with rfl
    · refine ⟨C_Malformed, PySem.W.mg_of X G E_Malformed.a, .inl ⟨by kernel_rfl, _, "ValueError", _, _, PySem.F.excBase_ValueError, E_Malformed.x, E_Malformed.k, fun X e => raises_own (by rw [e]; exact E_Malformed.e.hs) (by rw [e]; exact E_Malformed.t)⟩, fun c hc C1 hC => ?_⟩
      have hc : c ∈ excT := of_decide_eq_true hc
      simp only [excT, List.mem_cons, List.mem_nil_iff, or_false, List.not_mem_nil] at hc
      rcases hc with rfl
      · have e : C1 = .ref C_Malformed := Option.some.inj (hC.symm.trans (PySem.W.mg_of X G E_Malformed.a))
        subst e
        exact (PySem.W.exm_ref E_Malformed.e.hs E_Malformed.e.hd E_Malformed.t s_Malformed_Malformed).trans (congrArg some (by decide +kernel))
  · have hx := lookup_mem2 (show subT.lookup (x, F) = some b from hx)
    obtain ⟨CF, aF, dF, tF, C_Malformed, E_Malformed, f_Malformed, v_Malformed, s_Malformed_Malformed⟩ := A.ex
    simp only [subT, List.mem_cons, List.mem_nil_iff, or_false, List.not_mem_nil, Prod.mk.injEq] at hx
    rcases hx with ⟨⟨rfl, rfl⟩, rfl⟩ | ⟨⟨rfl, rfl⟩, rfl⟩
    · exact ⟨C_Malformed, .ref CF, .ref CF, PySem.W.mg_of X G E_Malformed.a, E_Malformed.e, .inl (PySem.W.mg_of X G aF), rfl, fun u hu => hu, kit_ref dF tF f_Malformed⟩
    · exact ⟨C_Malformed, .type "ValueError", .ty "ValueError", PySem.W.mg_of X G E_Malformed.a, E_Malformed.e, .inr ⟨PySem.W.mg_none_of X G A.bVE, by kernel_rfl⟩, rfl, fun u hu => hu, kit_ty' (by decide +kernel) v_Malformed⟩
  · have hF := lookup_mem (show fdT.lookup x = some F from hF)
    simp only [fdT, List.mem_cons, List.mem_nil_iff, or_false, List.not_mem_nil, Prod.mk.injEq] at hF
    rcases hF with ⟨rfl, rfl⟩ | ⟨rfl, rfl⟩ | ⟨rfl, rfl⟩ | ⟨rfl, rfl⟩ | ⟨rfl, rfl⟩ | ⟨rfl, rfl⟩ | ⟨rfl, rfl⟩ | ⟨rfl, rfl⟩ | ⟨rfl, rfl⟩ | ⟨rfl, rfl⟩ | ⟨rfl, rfl⟩ | ⟨rfl, rfl⟩ | ⟨rfl, rfl⟩ | ⟨rfl, rfl⟩ | ⟨rfl, rfl⟩ | ⟨rfl, rfl⟩ | ⟨rfl, rfl⟩ | ⟨rfl, rfl⟩ | ⟨rfl, rfl⟩ | ⟨rfl, rfl⟩ | ⟨rfl, rfl⟩ | ⟨rfl, rfl⟩ | ⟨rfl, rfl⟩ | ⟨rfl, rfl⟩ | ⟨rfl, rfl⟩ | ⟨rfl, rfl⟩ | ⟨rfl, rfl⟩ | ⟨rfl, rfl⟩ | ⟨rfl, rfl⟩ | ⟨rfl, rfl⟩ | ⟨rfl, rfl⟩ | ⟨rfl, rfl⟩
    · obtain ⟨f, fd, F, m, b⟩ := A.d_is_whole.fn X G F_is_whole.ps bd_is_whole
      exact ⟨_, _, _, f, fd, F, sc_is_whole, rfl, rfl, m, b⟩
    · obtain ⟨f, fd, F, m, b⟩ := A.d_common.fn X G F_common.ps bd_common
      exact ⟨_, _, _, f, fd, F, sc_common, rfl, rfl, m, b⟩
    · obtain ⟨f, fd, F, m, b⟩ := A.d_lowest.fn X G F_lowest.ps bd_lowest
      exact ⟨_, _, _, f, fd, F, sc_lowest, rfl, rfl, m, b⟩
    · obtain ⟨f, fd, F, m, b⟩ := A.d_is_ratio.fn X G F_is_ratio.ps bd_is_ratio
      exact ⟨_, _, _, f, fd, F, sc_is_ratio, rfl, rfl, m, b⟩
    · obtain ⟨f, fd, F, m, b⟩ := A.d_is_draw.fn X G F_is_draw.ps bd_is_draw
      exact ⟨_, _, _, f, fd, F, sc_is_draw, rfl, rfl, m, b⟩
    · obtain ⟨f, fd, F, m, b⟩ := A.d_check_draw.fn X G F_check_draw.ps bd_check_draw
      exact ⟨_, _, _, f, fd, F, sc_check_draw, rfl, rfl, m, b⟩
    · obtain ⟨f, fd, F, m, b⟩ := A.d_check_number.fn X G F_check_number.ps bd_check_number
      exact ⟨_, _, _, f, fd, F, sc_check_number, rfl, rfl, m, b⟩
    · obtain ⟨f, fd, F, m, b⟩ := A.d_draw_of.fn X G F_draw_of.ps bd_draw_of
      exact ⟨_, _, _, f, fd, F, sc_draw_of, rfl, rfl, m, b⟩
    · obtain ⟨f, fd, F, m, b⟩ := A.d_plain.fn X G F_plain.ps bd_plain
      exact ⟨_, _, _, f, fd, F, sc_plain, rfl, rfl, m, b⟩
    · obtain ⟨f, fd, F, m, b⟩ := A.d_chance.fn X G F_chance.ps bd_chance
      exact ⟨_, _, _, f, fd, F, sc_chance, rfl, rfl, m, b⟩
    · obtain ⟨f, fd, F, m, b⟩ := A.d_above.fn X G F_above.ps bd_above
      exact ⟨_, _, _, f, fd, F, sc_above, rfl, rfl, m, b⟩
    · obtain ⟨f, fd, F, m, b⟩ := A.d_upto.fn X G F_upto.ps bd_upto
      exact ⟨_, _, _, f, fd, F, sc_upto, rfl, rfl, m, b⟩
    · obtain ⟨f, fd, F, m, b⟩ := A.d_excess.fn X G F_excess.ps bd_excess
      exact ⟨_, _, _, f, fd, F, sc_excess, rfl, rfl, m, b⟩
    · obtain ⟨f, fd, F, m, b⟩ := A.d_lack.fn X G F_lack.ps bd_lack
      exact ⟨_, _, _, f, fd, F, sc_lack, rfl, rfl, m, b⟩
    · obtain ⟨f, fd, F, m, b⟩ := A.d_mean.fn X G F_mean.ps bd_mean
      exact ⟨_, _, _, f, fd, F, sc_mean, rfl, rfl, m, b⟩
    · obtain ⟨f, fd, F, m, b⟩ := A.d_variance.fn X G F_variance.ps bd_variance
      exact ⟨_, _, _, f, fd, F, sc_variance, rfl, rfl, m, b⟩
    · obtain ⟨f, fd, F, m, b⟩ := A.d_power_mean.fn X G F_power_mean.ps bd_power_mean
      exact ⟨_, _, _, f, fd, F, sc_power_mean, rfl, rfl, m, b⟩
    · obtain ⟨f, fd, F, m, b⟩ := A.d_least_number.fn X G F_least_number.ps bd_least_number
      exact ⟨_, _, _, f, fd, F, sc_least_number, rfl, rfl, m, b⟩
    · obtain ⟨f, fd, F, m, b⟩ := A.d_middle_number.fn X G F_middle_number.ps bd_middle_number
      exact ⟨_, _, _, f, fd, F, sc_middle_number, rfl, rfl, m, b⟩
    · obtain ⟨f, fd, F, m, b⟩ := A.d_common_rows.fn X G F_common_rows.ps bd_common_rows
      exact ⟨_, _, _, f, fd, F, sc_common_rows, rfl, rfl, m, b⟩
    · obtain ⟨f, fd, F, m, b⟩ := A.d_both.fn X G F_both.ps bd_both
      exact ⟨_, _, _, f, fd, F, sc_both, rfl, rfl, m, b⟩
    · obtain ⟨f, fd, F, m, b⟩ := A.d_has_mean.fn X G F_has_mean.ps bd_has_mean
      exact ⟨_, _, _, f, fd, F, sc_has_mean, rfl, rfl, m, b⟩
    · obtain ⟨f, fd, F, m, b⟩ := A.d__law_says.fn X G F__law_says.ps bd__law_says
      exact ⟨_, _, _, f, fd, F, sc__law_says, rfl, rfl, m, b⟩
    · obtain ⟨f, fd, F, m, b⟩ := A.d__law_some.fn X G F__law_some.ps bd__law_some
      exact ⟨_, _, _, f, fd, F, sc__law_some, rfl, rfl, m, b⟩
    · obtain ⟨f, fd, F, m, b⟩ := A.d__law_near.fn X G F__law_near.ps bd__law_near
      exact ⟨_, _, _, f, fd, F, sc__law_near, rfl, rfl, m, b⟩
    · obtain ⟨f, fd, F, m, b⟩ := A.d__law_pair.fn X G F__law_pair.ps bd__law_pair
      exact ⟨_, _, _, f, fd, F, sc__law_pair, rfl, rfl, m, b⟩
    · obtain ⟨f, fd, F, m, b⟩ := A.d__law_both.fn X G F__law_both.ps bd__law_both
      exact ⟨_, _, _, f, fd, F, sc__law_both, rfl, rfl, m, b⟩
    · obtain ⟨f, fd, F, m, b⟩ := A.d__law_gcd.fn X G F__law_gcd.ps bd__law_gcd
      exact ⟨_, _, _, f, fd, F, sc__law_gcd, rfl, rfl, m, b⟩
    · obtain ⟨f, fd, F, m, b⟩ := A.d__law_low.fn X G F__law_low.ps bd__law_low
      exact ⟨_, _, _, f, fd, F, sc__law_low, rfl, rfl, m, b⟩
    · obtain ⟨f, fd, F, m, b⟩ := A.d__law_is_draw.fn X G F__law_is_draw.ps bd__law_is_draw
      exact ⟨_, _, _, f, fd, F, sc__law_is_draw, rfl, rfl, m, b⟩
    · obtain ⟨f, fd, F, m, b⟩ := A.d__law_told.fn X G F__law_told.ps bd__law_told
      exact ⟨_, _, _, f, fd, F, sc__law_told, rfl, rfl, m, b⟩
    · obtain ⟨f, fd, F, m, b⟩ := A.d__law_bent.fn X G F__law_bent.ps bd__law_bent
      exact ⟨_, _, _, f, fd, F, sc__law_bent, rfl, rfl, m, b⟩
  · have hp : (if x = ("_law_take" : Str) then some takeP else none) = some p := hp
    split at hp
    · rename_i e
      subst e
      cases hp
      obtain ⟨f, fd, F, m, b⟩ := A.d_take.fn X G ["draw", "many"] bd__law_take
      refine ⟨f, fd, _, m, F.kp, b, ok_take F (PySem.W.mg_none_of X G A.b_len) (PySem.W.mg_none_of X G A.b_int), fun ds s hl => ?_⟩
      unfold takeP
      split
      · exact absurd rfl hl
      · rfl
    · cases hp
theorem wp_of {α : Type} {m m2 : M α} {s : DS} {Q : α → DS → Prop} {E : Exc → DS → Prop} (h : m = m2) (q : (m2 s).sat Q) : Wp m s Q E := by
  subst h
  unfold Wp
  obtain ⟨a, s2, e, q⟩ := q.ex
  rw [e]
  exact q
theorem law_run : LawRun P 7 2000 nLaw (defScope (top 42)) ((defBody (top 42)).drop 1) := fun ns sd _ h0 h1 => wp_of (l_law (P.call 2000 7) 2000 (startL nLaw.length)) (law_runs 2000 (by decide) ⟨Int.le_refl _, h0, h1⟩)
theorem all_law (A : AllIn K) (X : K.In h) (G : h.Ns mainGlobals mg) {fa : Addr} (hfa : mg "law" = some (.ref fa)) : ∃ fd : FuncData, (∀ (s : Shared) (u : Value), BindsTo s fd ⟨[u], []⟩ [("script", u)]) ∧ ∀ base : Heap, K.In base → base.Ns mainGlobals mg → FnOk P0 w K mg base (L2.CX P0 w) 9 fa fd ["script"] (spLaw K) := by
  obtain ⟨f, oc, od, an, osl, kV, doc, pm, cdv, ct, a, l, c, k⟩ := A.d_law.ex
  have F := fun_mk l c k
  have e : fa = f := by have := hfa.symm.trans (PySem.W.mg_of X G a); cases this; rfl
  subst e
  refine ⟨PySem.W.fnOf "law" "law" (defArgs (top 42)) (defBody (top 42)) (defScope (top 42)) .none kV doc pm an cdv ct, fun s u => .of_eq rfl, fun base _ _ => ?_⟩
  obtain ⟨fd_, fdd, Fd_, md, bd⟩ := A.d_draw.fn X G ["script"] bd__law_draw
  have D0 : FnOk P0 w K mg base (L2.CX P0 w) 1 fd_ fdd ["script"] (spDraw K) := ok_draw Fd_ (PySem.W.mg_none_of X G A.b_abs) (PySem.W.mg_none_of X G A.b_int)
  exact law_sound (P := P) (k0 := 1) (j := 7) (w := 2000) (N := nLaw) (rest := (defBody (top 42)).drop 1) (fun cap cell => pg_ok A X G cap cell) F sc_law rfl rfl rfl rfl (by first | exact .inl rfl | exact .inr rfl) rfl D0 md Fd_.kp bd (Nat.le_refl 1) law_run
theorem walk_law {l : PySem.W.OpenLaw} {q : Program} {loose : List Str} {XP : (Str → Option Value) → Heap → Prop} {YP : World → Heap → Prop} {d : DefRec} {K : Params → PySem.W.Frag} (hn : l.most = some 63) (hdf : d.params.defaults = [])
    (hY : ∀ (w : World) (h : Heap), YP w h → (K w.params).In h)
    (F : ∀ (w : World) (mg : Str → Option Value) (fa : Addr) (h : Heap), (K w.params).In h → h.Ns mainGlobals mg → mg d.name = some (.ref fa) →
      ∃ fd : FuncData, (∀ (s : Shared) (u : Value), BindsTo s fd ⟨[u], []⟩ [("script", u)]) ∧ ∀ base : Heap, (K w.params).In base → base.Ns mainGlobals mg → FnOk l.prog w (K w.params) mg base (L2.CX l.prog w) 9 fa fd ["script"] (spLaw (K w.params))) :
    PySem.W.WalkO q loose XP YP l.row.toRowW d [] (fun f vs => PySem.call f vs) :=
  L2.walk_of (n := 63) (k := 9) (x := "script") (CX := fun w => L2.CX l.prog w) (sp := fun w => spLaw (K w.params)) hn (by decide) hdf ⟨rfl, by decide, by decide⟩ hY F (fun _ _ a ns hl _ hS => ⟨a, ns, rfl, hS, hl, fun _ => rfl⟩) fun _ _ _ _ _ ⟨_, _, _, _, _, _, _, _, _, _, _, _, z⟩ => z
end
end Py
open PySem PySem.W PyProof.Rows
set_option maxRecDepth 100000 in
set_option maxHeartbeats 0 in
theorem PySem.Challenge.cw_drawnhigher_k01_draws_holds : PySem.Challenge.rw_drawnhigher_k01_draws.Holds := by
  w_on; o_law; k_head; (case hw => w_witness2)
  k_fill
  refine Py.walk_law (l := PySem.Challenge.rw_drawnhigher_k01_draws) rfl rfl (fun w h Y => PySem.W.kIn_of Y) ?F
  case F =>
    intro w mg fa h KX G hmg
    refine' Py.all_law ?A KX G hmg
    case A =>
      refine' ⟨?d_is_whole, ?d_common, ?d_lowest, ?d_is_ratio, ?d_is_draw, ?d_check_draw, ?d_check_number, ?d_draw_of, ?d_plain, ?d_chance, ?d_above, ?d_upto, ?d_excess, ?d_lack, ?d_mean, ?d_variance, ?d_power_mean, ?d_least_number, ?d_middle_number, ?d_common_rows, ?d_both, ?d_has_mean, ?d__law_says, ?d__law_some, ?d__law_near, ?d__law_pair, ?d__law_both, ?d__law_gcd, ?d__law_low, ?d__law_is_draw, ?d__law_told, ?d__law_bent, ?d_take, ?d_draw, ?d_law, ?b_abs, ?b_all, ?b_bool, ?b_enumerate, ?b_int, ?b_isinstance, ?b_len, ?b_list, ?b_max, ?b_min, ?b_range, ?b_sum, ?b_tuple, ?c_MOST_NUMBER, ?c_MOST_WEIGHT, ?bVE, ?ex⟩
      case d_is_whole => refine' Py.def_mk ?a ?l ?c ?k; (case a => k_is); (case l => k_is); (case c => k_is); (case k => k_is)
      case d_common => refine' Py.def_mk ?a ?l ?c ?k; (case a => k_is); (case l => k_is); (case c => k_is); (case k => k_is)
      case d_lowest => refine' Py.def_mk ?a ?l ?c ?k; (case a => k_is); (case l => k_is); (case c => k_is); (case k => k_is)
      case d_is_ratio => refine' Py.def_mk ?a ?l ?c ?k; (case a => k_is); (case l => k_is); (case c => k_is); (case k => k_is)
      case d_is_draw => refine' Py.def_mk ?a ?l ?c ?k; (case a => k_is); (case l => k_is); (case c => k_is); (case k => k_is)
      case d_check_draw => refine' Py.def_mk ?a ?l ?c ?k; (case a => k_is); (case l => k_is); (case c => k_is); (case k => k_is)
      case d_check_number => refine' Py.def_mk ?a ?l ?c ?k; (case a => k_is); (case l => k_is); (case c => k_is); (case k => k_is)
      case d_draw_of => refine' Py.def_mk ?a ?l ?c ?k; (case a => k_is); (case l => k_is); (case c => k_is); (case k => k_is)
      case d_plain => refine' Py.def_mk ?a ?l ?c ?k; (case a => k_is); (case l => k_is); (case c => k_is); (case k => k_is)
      case d_chance => refine' Py.def_mk ?a ?l ?c ?k; (case a => k_is); (case l => k_is); (case c => k_is); (case k => k_is)
      case d_above => refine' Py.def_mk ?a ?l ?c ?k; (case a => k_is); (case l => k_is); (case c => k_is); (case k => k_is)
      case d_upto => refine' Py.def_mk ?a ?l ?c ?k; (case a => k_is); (case l => k_is); (case c => k_is); (case k => k_is)
      case d_excess => refine' Py.def_mk ?a ?l ?c ?k; (case a => k_is); (case l => k_is); (case c => k_is); (case k => k_is)
      case d_lack => refine' Py.def_mk ?a ?l ?c ?k; (case a => k_is); (case l => k_is); (case c => k_is); (case k => k_is)
      case d_mean => refine' Py.def_mk ?a ?l ?c ?k; (case a => k_is); (case l => k_is); (case c => k_is); (case k => k_is)
      case d_variance => refine' Py.def_mk ?a ?l ?c ?k; (case a => k_is); (case l => k_is); (case c => k_is); (case k => k_is)
      case d_power_mean => refine' Py.def_mk ?a ?l ?c ?k; (case a => k_is); (case l => k_is); (case c => k_is); (case k => k_is)
      case d_least_number => refine' Py.def_mk ?a ?l ?c ?k; (case a => k_is); (case l => k_is); (case c => k_is); (case k => k_is)
      case d_middle_number => refine' Py.def_mk ?a ?l ?c ?k; (case a => k_is); (case l => k_is); (case c => k_is); (case k => k_is)
      case d_common_rows => refine' Py.def_mk ?a ?l ?c ?k; (case a => k_is); (case l => k_is); (case c => k_is); (case k => k_is)
      case d_both => refine' Py.def_mk ?a ?l ?c ?k; (case a => k_is); (case l => k_is); (case c => k_is); (case k => k_is)
      case d_has_mean => refine' Py.def_mk ?a ?l ?c ?k; (case a => k_is); (case l => k_is); (case c => k_is); (case k => k_is)
      case d__law_says => refine' Py.def_mk ?a ?l ?c ?k; (case a => k_is); (case l => k_is); (case c => k_is); (case k => k_is)
      case d__law_some => refine' Py.def_mk ?a ?l ?c ?k; (case a => k_is); (case l => k_is); (case c => k_is); (case k => k_is)
      case d__law_near => refine' Py.def_mk ?a ?l ?c ?k; (case a => k_is); (case l => k_is); (case c => k_is); (case k => k_is)
      case d__law_pair => refine' Py.def_mk ?a ?l ?c ?k; (case a => k_is); (case l => k_is); (case c => k_is); (case k => k_is)
      case d__law_both => refine' Py.def_mk ?a ?l ?c ?k; (case a => k_is); (case l => k_is); (case c => k_is); (case k => k_is)
      case d__law_gcd => refine' Py.def_mk ?a ?l ?c ?k; (case a => k_is); (case l => k_is); (case c => k_is); (case k => k_is)
      case d__law_low => refine' Py.def_mk ?a ?l ?c ?k; (case a => k_is); (case l => k_is); (case c => k_is); (case k => k_is)
      case d__law_is_draw => refine' Py.def_mk ?a ?l ?c ?k; (case a => k_is); (case l => k_is); (case c => k_is); (case k => k_is)
      case d__law_told => refine' Py.def_mk ?a ?l ?c ?k; (case a => k_is); (case l => k_is); (case c => k_is); (case k => k_is)
      case d__law_bent => refine' Py.def_mk ?a ?l ?c ?k; (case a => k_is); (case l => k_is); (case c => k_is); (case k => k_is)
      case d_take => refine' Py.def_mk ?a ?l ?c ?k; (case a => k_is); (case l => k_is); (case c => k_is); (case k => k_is)
      case d_draw => refine' Py.def_mk ?a ?l ?c ?k; (case a => k_is); (case l => k_is); (case c => k_is); (case k => k_is)
      case d_law => refine' Py.def_mk ?a ?l ?c ?k; (case a => k_is); (case l => k_is); (case c => k_is); (case k => k_is)
      case b_abs => k_is
      case b_all => k_is
      case b_bool => k_is
      case b_enumerate => k_is
      case b_int => k_is
      case b_isinstance => k_is
      case b_len => k_is
      case b_list => k_is
      case b_max => k_is
      case b_min => k_is
      case b_range => k_is
      case b_sum => k_is
      case b_tuple => k_is
      case c_MOST_NUMBER => refine' Py.cst_mk ?a ?i; (case a => k_is); (case i => exact Py.itI)
      case c_MOST_WEIGHT => refine' Py.cst_mk ?a ?i; (case a => k_is); (case i => exact Py.itI)
      case bVE => k_is
      case ex =>
        refine' Py.ex_mk ?aF ?dF ?tF ?e_Malformed ?f_Malformed ?v_Malformed ?s_Malformed_Malformed
        (case aF => k_is); (case dF => k_is); (case tF => k_is)
        case e_Malformed => refine' ⟨?a, ?x, ?k, ?t, ⟨?hg, ?hk, ?hs, ?hd, ?ha, ?hn, ?ht, ?hm⟩⟩; (case a => k_is); (case x => k_exc); (case k => k_is); (case t => k_is); (case hg => k_is); (case hk => k_is); (case hs => k_is); (case hd => k_is); (case ha => k_is); (case hn => k_is); (case ht => k_is); (case hm => k_is)
        (case f_Malformed => k_is); (case v_Malformed => k_is)
        (case s_Malformed_Malformed => k_is)


