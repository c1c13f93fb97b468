import PyProof.Rows.All
import Wide.All
import OpenK.AllK
import Wide.FinOn
import KE.SortData
import PyProof.TupleOfSeq
import HandS.Deep
import HandS.SortInts
import HandS.ForMost
import HandS.ForExc
import HandS.Wide
import HandS.TupAny
import HandS.IsInst
import HandS.Codes
import HandS.Style
import HandS.TryOnly
import HandS.TupMul
import HandS.ExcIs
import HandS.Flow
import KE.KExcSuper
import HandS.ExcInit
import HandS.More
import HandS.Dict
import KE.KTupSum
import KE.DataMinMax
import HandS.Iter
import HandS.Zip
import KE.GoesEnum
import HandS.Conv
import PySem.Challenge.RW_drawnhigher_k08_arrows_and_chains
set_option Elab.async false
set_option linter.all false
set_option maxRecDepth 100000
set_option maxHeartbeats 4000000
/-! sorted(..) of a list or tuple of alike data; < between alike data -/
namespace Py
open PySem PySem.Spec PyProof.Rows PySem.W L2
section
variable {prog : Program} {w : World} {A : Around} {E : Value → Shared → Prop} {s : Shared} {β : Type} {bs : List β} {enc : β → PyData} {R : Value → β → Prop}
theorem collect_lt {l : Addr} {T : String} {o : Obj} {items : Array Value} {n : Nat} {Q : List Value → Shared → Prop} (hT : T = "list" ∨ T = "tuple") (ho : s.heap.get? l = some o) (hc : o.cls = .type T) (hd : o.data = .seq items n)
    (h : Q items.toList { s with heap := (s.heap.push (seqObj "list" #[] 0)).update s.heap.objs.size (Obj.mapSeq (· ++ items)) }) (hsz : items.size ≤ sizeLine) :
    wpAny (model prog w) A (collect (.ref l)) Q E s := by
  unfold collect
  refine wpAny_bind (wpAny_runValue (codeAny_builtin entry_proto_collect' ?_))
  show wpAny _ _ (do again (.builtin "list.__iadd__" ⟨[← newList [], .ref l], []⟩)) _ _ s
  refine wpAny_bind (wpAny_newList (wpAny_pure ⟨Code.quiet_builtin _ (by decide +kernel), codeAny_builtin entry_list_iadd' ?_⟩))
  show wpAny _ _ (Builtin.List.listExtendWith (.ref s.heap.objs.size) (.ref l) (.ref s.heap.objs.size)) _ _ { s with heap := s.heap.push (seqObj "list" #[] 0) }
  unfold Builtin.List.listExtendWith
  have ho' : (s.heap.push (seqObj "list" #[] 0)).get? l = some o := Heap.get?_push_of_some _ ho
  refine wpAny_bind (wpAny_typeOf (T := T) ⟨o, ho', hc⟩ ?_)
  rw [if_pos (by rcases hT with rfl | rfl <;> simp)]
  refine wpAny_bind (listItems_at ho' hd ?_)
  refine wpAny_bind (listItems_at (xs := #[]) (n := 0) (Heap.get?_push_size _ rfl) rfl ?_)
  rw [if_neg (by simp)]
  refine wpAny_bind (listUpdate_at (xs := #[]) (n := 0) (Heap.get?_push_size _ rfl) rfl ?_ (Nat.zero_le _) (by show (#[] ++ items).size ≤ sizeLine + 1; simp only [Array.size_append, List.size_toArray, List.length_nil]; omega))
  refine wpAny_pure ?_
  show wpAny (model prog w) A (do
      let o ← load s.heap.objs.size
      match o.data with
      | .seq xs _ => pure xs.toList
      | _ => unsupported "internal:collect") Q E { s with heap := (s.heap.push (seqObj "list" #[] 0)).update s.heap.objs.size (Obj.mapSeq (· ++ items)) }
  refine wpAny_bind (wpAny_load (get?_update_seq (Heap.get?_push_size _ rfl) _) ?_)
  show wpAny _ _ (pure ((#[] : Array Value) ++ items).toList) Q E _
  rw [show ((#[] : Array Value) ++ items).toList = items.toList by simp]
  exact wpAny_pure h
theorem sorted_seq_data {l : Addr} {T : String} {o : Obj} {items : Array Value} {n : Nat} {Q : Value → Shared → Prop} (hT : T = "list" ∨ T = "tuple") (ho : s.heap.get? l = some o) (hc : o.cls = .type T) (hd : o.data = .seq items n)
    (e : EachIs R items.toList bs) (er : EachIs (fun v b => ∃ as, Reads s.heap v (enc b) as) items.toList bs) (hal : AllAlike (bs.map enc)) (hk : Sortable (bs.map enc)) (hL : items.toList.length ≤ sizeLine)
    (hu : ∀ b, b ∈ bs → A.units + 2 + (enc b).depth < cLine)
    (h : ∀ (h' : Heap) (p : Addr) (out : List Value) (ep : Nat), (∀ b o, s.heap.get? b = some o → h'.get? b = some o) → s.heap.objs.size ≤ p → h'.get? p = some (seqObj "list" out.toArray ep) → out.length = bs.length → EachIs R out (bs.mergeSort (dataLe false enc)) → Q (.ref p) { s with heap := h' }) :
    wpAny (model prog w) A (call (.builtin "sorted") [.ref l]) Q E s := by
  refine Calls.call_function_entry kind_sorted plain_sorted entry_sorted (args_sorted1 _) ?_
  unfold Builtin.«sorted»
  refine wpAny_bind (m := checkCount "sorted" 1 1 _) (wpAny_pure ?_)
  refine wpAny_bind (collect_lt hT ho hc hd ?_ (by simpa using hL))
  refine wpAny_bind (wpAny_newList ?_ hL)
  have hsz : ((s.heap.push (seqObj "list" #[] 0)).update s.heap.objs.size (Obj.mapSeq (· ++ items))).objs.size = s.heap.objs.size + 1 := by
    rw [Heap.size_update, size_push']
  have hoL : (((s.heap.push (seqObj "list" #[] 0)).update s.heap.objs.size (Obj.mapSeq (· ++ items))).push (seqObj "list" items.toList.toArray 0)).get? (s.heap.objs.size + 1) = some (seqObj "list" items.toList.toArray 0) := by
    rw [← hsz]; exact Heap.get?_push_size _ rfl
  have keep : ∀ b o, s.heap.get? b = some o → b ≠ s.heap.objs.size + 1 ∧ (((s.heap.push (seqObj "list" #[] 0)).update s.heap.objs.size (Obj.mapSeq (· ++ items))).push (seqObj "list" items.toList.toArray 0)).get? b = some o := fun b o q => by
    have hlt : b < s.heap.objs.size := Heap.lt_size q
    refine ⟨Nat.ne_of_lt (Nat.lt_succ_of_lt hlt), Heap.get?_push_of_some _ ?_⟩
    rw [Heap.get?_update_ne _ _ _ _ (Nat.ne_of_lt hlt)]
    exact Heap.get?_push_of_some _ q
  show wpAny _ _ _ _ _ { s with heap := ((s.heap.push (seqObj "list" #[] 0)).update s.heap.objs.size (Obj.mapSeq (· ++ items))).push (seqObj "list" items.toList.toArray 0) }
  rw [hsz]
  generalize hg : ((s.heap.push (seqObj "list" #[] 0)).update s.heap.objs.size (Obj.mapSeq (· ++ items))).push (seqObj "list" items.toList.toArray 0) = g at hoL keep ⊢
  generalize hp : s.heap.objs.size + 1 = p at hoL keep ⊢
  have er' : EachIs (fun v b => ∃ as, Reads (sortingHeap g p items.toList) v (enc b) as) items.toList bs := er.mono fun _ _ ⟨as, r⟩ => ⟨as, PyProof.Rows.Reads.keeps (fun b o q => sortingHeap_old (keep b o q).1 (keep b o q).2) r⟩
  have S := SortsAt.data (prog := prog) (w := w) (A := A.in1.in1) (s := { s with heap := sortingHeap g p items.toList }) (each_map (R := fun v d => ∃ as, Reads (sortingHeap g p items.toList) v d as) enc er') hal hk (bound_map (A := A.in1.in1) hu)
  refine wpAny_bind (wpAny_holding (wpAny_call_entry slot_list_sort ⟨_, hoL, rfl⟩ entry_list_sort (list_sort_vals (s := { s with heap := g }) hoL S hL ⟨_, rfl, ?_⟩) (args_list_sort _)))
  refine wpAny_pure ⟨_, rfl, ?_⟩
  obtain ⟨ep, hep⟩ := sortedHeap_at (h := g) (a := p) (vs := items.toList) (n := 0) (out := (sortVals (dataKind (sortingHeap g p items.toList) (bs.map enc)) false items.toList items.toList).toArray) hoL
  refine h _ _ _ ep (fun b o q => ?_) (by omega) hep (by rw [sortVals_length false rfl]; exact e.length) (sortVals_data false e er' hal)
  rw [sortedHeap_old (keep b o q).1 (Heap.lt_size (keep b o q).2)]
  exact (keep b o q).2
end
theorem each_vals {H : Hp} {K : PySem.W.Frag} : ∀ {xs : List V} {its : List Value} {ds : List PyData}, Vals xs its → DpAll K H xs ds → EachIs (fun v (b : PyData × V) => RelV b.2 v) its (ds.zip xs)
  | [], _, _, r, h => by cases r; cases h; exact .nil
  | x :: xs, _, _, r, h => by
    cases r with
    | cons r1 r2 =>
      cases h with
      | cons h1 h2 => exact .cons r1 (each_vals r2 h2)
theorem each_reads {h : Heap} {H : Hp} {K : PySem.W.Frag} : ∀ {xs : List V} {its : List Value} {ds : List PyData} {as : List Addr}, DpAll K H xs ds → ReadsAll h its ds as → EachIs (fun v (b : PyData × V) => ∃ as, Reads h v b.1 as) its (ds.zip xs)
  | [], _, _, _, h, r => by cases h; cases r; exact .nil
  | x :: xs, _, _, _, h, r => by
    cases h with
    | cons h1 h2 =>
      cases r with
      | cons r1 r2 => exact .cons ⟨_, r1⟩ (each_reads h2 r2)
theorem zip_fst {H : Hp} {K : PySem.W.Frag} : ∀ {xs : List V} {ds : List PyData}, DpAll K H xs ds → (ds.zip xs).map Prod.fst = ds
  | [], _, h => by cases h; rfl
  | x :: xs, _, h => by
    cases h with
    | cons h1 h2 => rw [List.zip_cons_cons, List.map_cons, zip_fst h2]
theorem vals_of_each : ∀ {out : List Value} {zs : List (PyData × V)}, EachIs (fun v (b : PyData × V) => RelV b.2 v) out zs → Vals (zs.map Prod.snd) out
  | _, _, .nil => .nil
  | _, _, .cons r t => .cons r (vals_of_each t)
/-- sorted(xs), a list or a tuple of alike data -/
def rSortedD (X : Cx) : List V → Hp → VK → Prop := fun vs H Q => ∃ (a : Addr) (xs : List V) (ds : List PyData), vs = [V.ref a] ∧ (SqL X.K H a xs ∨ SqT X.K H a xs) ∧ DpAll X.K H xs ds ∧ AllAlike ds ∧ Sortable ds ∧
  (∀ d ∈ ds, X.A.units + 2 + d.depth < cLine) ∧ ∀ p, H p = none → Q (.ref p) (upd H p (.lst (((ds.zip xs).mergeSort (dataLe false Prod.fst)).map Prod.snd)))
theorem cr_sortedD {X : Cx} : CallR X (.builtin "sorted") (rSortedD X) := by
  intro pins s σ H vs us Q I r h
  obtain ⟨a, xs, ds, rfl, hs, hd, hal, hk, hu, q⟩ := h
  rw [Vals.ref1 r]
  have zf := zip_fst hd
  have fin : ∀ (T : String) (o : Obj) (its : List Value) (n : Nat), T = "list" ∨ T = "tuple" → Vals xs its → s.heap.get? a = some o → o.cls = .type T → o.data = .seq its.toArray n → xs.length ≤ sizeLine →
      wpAny (model X.prog X.w) X.A (call (.builtin "sorted") [.ref a]) (EP X pins σ Q) X.xe s := by
    intro T o its n hT rv ho hc hdt hz
    obtain ⟨as, ra⟩ := Dp.readsAll I ds xs its hd rv
    have hl : its.length = xs.length := rv.length.symm
    refine sorted_seq_data (enc := Prod.fst) (R := fun v (b : PyData × V) => RelV b.2 v) (bs := ds.zip xs) hT ho hc hdt (each_vals rv hd) (each_reads hd ra) (by rw [zf]; exact hal) (by rw [zf]; exact hk) (by simpa using (by omega : its.length ≤ sizeLine)) (fun b hb => hu _ (by rw [← zf]; exact List.mem_map_of_mem hb)) fun h' p out ep kp hp hg hlen he => ?_
    have vo := vals_of_each he
    refine ⟨.ref p, upd H p (.lst (((ds.zip xs).mergeSort (dataLe false Prod.fst)).map Prod.snd)), I.laid (t' := s.toks) kp hp ⟨?_, out, ep, vo, hg⟩, rfl, q p (I.hok.fresh hp)⟩
    have h1 := vo.length
    have h2 := he.length
    rw [List.length_map]
    have h3 : (ds.zip xs).length ≤ xs.length := by rw [List.length_zip]; omega
    rw [List.length_mergeSort]
    omega
  rcases hs with hs | hs
  · obtain ⟨its, rv, ⟨o, n, ho, hc, _, hdt⟩, hz⟩ := I.list hs
    exact fin "list" o its n (.inl rfl) rv ho hc hdt hz
  · obtain ⟨its, rv, ⟨o, ho, hc, n, hdt⟩, hz⟩ := I.tuple hs
    exact fin "tuple" o its n (.inr rfl) rv ho hc hdt hz
/-- x < y, alike data -/
theorem op_ltD {X : Cx} : OpR X (compareOp .Lt) (fun x y H Q => ∃ d e, Dp X.K H x d ∧ Dp X.K H y e ∧ alike d e = true ∧ d ≠ .none ∧ X.A.units + min d.depth e.depth < cLine ∧ Q (.bl (dataLt d e)) H) := by
  intro pins s σ H x y v u Q I rx ry h
  obtain ⟨d, e, hd, he, hal, hn, hu, q⟩ := h
  obtain ⟨as, r1⟩ := Dp.reads I d x v hd rx
  obtain ⟨bs, r2⟩ := Dp.reads I e y u he ry
  exact rcLt_alike d e X.A s v u as bs r1 r2 hal hn hu _ _ _ _ ⟨.bl _, H, I, rfl, q⟩
end Py

set_option Elab.async false
set_option linter.all false
set_option maxRecDepth 100000
/-! A plain interpreter of a small part of Python over data as values. -/
namespace Py
open PySem

abbrev D := PyData
/-- an exception: its class's name, its fields -/
structure Exc where
  cls : Str
  flds : List (Str × D)
/-- the row that numbers are drawn from -/
structure DS where
  cells : List Int
  at_ : Int
  cur : Int
  seed : Int
inductive Res (α : Type) where
  | ok (a : α) (s : DS) | exc (x : Exc) (s : DS) | fail
def M (α : Type) := DS → Res α
def M.pure {α : Type} (a : α) : M α := fun s => .ok a s
def M.bind {α β : Type} (m : M α) (k : α → M β) : M β := fun s => match m s with
  | .ok a s' => k a s'
  | .exc x s' => .exc x s'
  | .fail => .fail
instance : Monad M where
  pure := M.pure
  bind := M.bind
def fail {α : Type} : M α := fun _ => .fail
def throwX {α : Type} (x : Exc) : M α := fun s => .exc x s
def need (b : Bool) : M Unit := if b = true then pure () else fail
def nextS (s : DS) : DS :=
  if s.cur = 0 then
    if s.at_ + 1 < (s.cells.length : Int) ∧ s.cells.getD (s.at_ + 1).toNat 0 ≠ 0 then { s with at_ := s.at_ + 1, cur := s.cells.getD (s.at_ + 1).toNat 0 }
    else { s with at_ := s.at_ + 1, seed := (s.seed * 48271 + 11) % 2147483647, cur := (s.seed * 48271 + 11) % 2147483647 }
  else s
/-- a number from 0 to many - 1 -/
def take (many : Int) : M D := fun s =>
  if 0 < many ∧ many.natAbs.log2 < 9000 ∧ -1 ≤ s.at_ ∧ 0 ≤ s.seed ∧ s.seed < 2147483647 then .ok (.int ((nextS s).cur % many)) { nextS s with cur := (nextS s).cur / many }
  else .fail

/-! ### the surroundings -/
structure Flg where
  fr : Bool       -- gives a fresh list
  fl : Bool       -- gives data without lists
structure Gs where
  cst : Str → Option D            -- the module's constants
  fns : Str → Option Flg          -- the module's defs
  call : Str → List D → M D       -- what they do
  bare : Str → Bool               -- names that the module leaves to the built-ins
  exc : Str → Bool                -- exception classes, made with a text
  ini : Str → Bool                -- those that keep the text in a field
  sub : Str → Str → Option Bool   -- is it a class under another
structure Cxt where
  N : List Str
  sc : Scope      -- the scope that runs
  st : Scope      -- the scope as it is written
abbrev Sl := Option (D × Bool)
abbrev St := List Sl

def kindL (sc : Scope) (x : Str) : Bool := match sc.names.lookup x with
  | some .local => true | some .cell => true | some .free => true | _ => false
def kindG (sc : Scope) (x : Str) : Bool := match sc.names.lookup x with
  | some .globalImplicit => true | _ => false
def slot (Γ : Cxt) (x : Str) : Option Nat := if kindL Γ.sc x = true then Γ.N.idxOf? x else none
def okName (x : Str) : Bool := !(x == ("__debug__" : Str)) && !(x == ("__classdict__" : Str)) && !(x == ("__name__" : Str))

mutual
/-- no list, no dict within -/
def flat : D → Bool
  | .none => true | .bool _ => true | .int _ => true | .str _ => true
  | .tuple ds => flats ds
  | .list _ => false | .dict _ => false
def flats : List D → Bool
  | [] => true
  | d :: ds => flat d && flats ds
end
def capD : D := .dict [(.none, .none)]
/-- a key: a number, a text -/
def keyD : D → Option L2.Key
  | .int i => some (.inl i)
  | .str x => some (.inr x)
  | _ => none
def dAt (k : L2.Key) : List (D × D) → Option D
  | [] => none
  | p :: r => if keyD p.1 = some k then some p.2 else dAt k r
def dOk (kvs : List (D × D)) : Bool := kvs.all fun p => (keyD p.1).isSome
def dPut (kvs : List (D × D)) (k d : D) : List (D × D) :=
  if (kvs.any fun p => decide (keyD p.1 = keyD k)) = true then kvs.map (fun p => if keyD p.1 = keyD k then (p.1, d) else p) else kvs ++ [(k, d)]

/-! ### operators by values -/
def sline : Nat := 16777216
def cut {α : Type} (xs : List α) (lo hi : Option Int) : List α :=
  (xs.drop (HT.sIx xs.length 0 lo)).take (HT.sIx xs.length xs.length hi - HT.sIx xs.length 0 lo)
def binop : Operator → D → D → M D
  | .Add, .int i, .int j => pure (.int (i + j))
  | .Sub, .int i, .int j => pure (.int (i - j))
  | .Mult, .int i, .int j => if i.natAbs.log2 + j.natAbs.log2 < 1000000 then pure (.int (i * j)) else fail
  | .FloorDiv, .int i, .int j => if 0 < j ∧ j.natAbs.log2 < 9000 then pure (.int (i / j)) else
      if j < 0 ∧ j.natAbs.log2 < 9000 then pure (.int (i.fdiv j)) else fail
  | .Mod, .int i, .int j => if 0 < j then pure (.int (i % j)) else fail
  | .Add, .str a, .str b => if a.length + b.length ≤ sline then pure (.str (a ++ b)) else fail
  | .Add, .list a, .list b => if a.length + b.length ≤ sline then pure (.list (a ++ b)) else fail
  | .Add, .tuple a, .tuple b => if a.length + b.length ≤ sline then pure (.tuple (a ++ b)) else fail
  | .Mult, .list a, .int k => if k < 2 ^ 62 ∧ -(2 ^ 62) ≤ k ∧ a.length * k.toNat ≤ sline then pure (.list (List.replicate k.toNat a).flatten) else fail
  | .Mult, .tuple a, .int k => if a ≠ [] ∧ 2 ≤ k ∧ k ≤ 1000 ∧ a.length ≤ 1000 then pure (.tuple (List.replicate k.toNat a).flatten) else if a ≠ [] ∧ k = 1 then pure (.tuple a) else fail
  | .Sub, .bool a, .bool b => pure (.int ((if a then 1 else 0) - (if b then 1 else 0)))
  | _, _, _ => fail
def eqD (x y : D) : M Bool := if SeqAt.shaped x = true ∧ SeqAt.shaped y = true then pure (PyData.eqv x y) else fail
def inD (x y : D) : M Bool := match x, y with
  | x, .list ds => if SeqAt.shaped x = true ∧ SeqAt.shaped (.list ds) = true then pure (ds.any fun z => PyData.eqv z x) else fail
  | x, .tuple ds => if SeqAt.shaped x = true ∧ SeqAt.shaped (.tuple ds) = true then pure (ds.any fun z => PyData.eqv z x) else fail
  | .str a, .str z => if a.cps.size = 1 then pure (decide (a.cps.getD 0 0 ∈ z.cps.toList)) else fail
  | .str a, .dict kvs => if dOk kvs = true then pure (dAt (.inr a) kvs).isSome else fail
  | _, _ => fail
/-- alike data that can be compared, sorted -/
def ltOk (d : D) : Bool := PyData.canLay0 d && decide (d.depth ≤ 32)
def neT : D → Bool
  | .tuple (_ :: _) => true
  | _ => false
def noT : D → Bool
  | .tuple _ => false
  | .none => false
  | _ => true
def srtOk (ds : List D) : Bool := (ds.all fun d => ds.all fun e => PySem.W.alike d e) && (ds.all neT || ds.all noT) && (ds.all ltOk && decide (ds.length ≤ sline))
def srtD (ds : List D) : M D := if srtOk ds = true then pure (.list (ds.mergeSort (PySem.W.dataLe false id))) else fail
def cmpop : CmpOp → D → D → M Bool
  | .Eq, x, y => eqD x y
  | .NotEq, x, y => do let b ← eqD x y; pure (!b)
  | .Lt, .int i, .int j => pure (decide (i < j))
  | .Lt, .tuple a, .tuple b => if PySem.W.alike (.tuple a) (.tuple b) = true ∧ ltOk (.tuple a) = true ∧ ltOk (.tuple b) = true then pure (PySem.W.dataLt (.tuple a) (.tuple b)) else fail
  | .LtE, .int i, .int j => pure (decide (i ≤ j))
  | .Gt, .int i, .int j => pure (decide (j < i))
  | .GtE, .int i, .int j => pure (decide (j ≤ i))
  | .Is, x, .none => match x with
    | .none => pure true
    | _ => pure false
  | .IsNot, x, .none => match x with
    | .none => pure false
    | _ => pure true
  | .Is, .bool a, .bool b => pure (a == b)
  | .IsNot, .bool a, .bool b => pure (!(a == b))
  | .In, x, y => inD x y
  | .NotIn, x, y => do let b ← inD x y; pure (!b)
  | _, _, _ => fail
def getD' (x i : D) : M D := match x, i with
  | .list ds, .int i => match L2.atI ds i with
    | some d => pure d
    | none => fail
  | .tuple ds, .int i => match L2.atI ds i with
    | some d => pure d
    | none => fail
  | .str z, .int i => match L2.atI z.cps.toList i with
    | some c => if z.length ≤ sline then pure (.str ⟨#[c]⟩) else fail
    | none => fail
  | .dict kvs, .int i => match dAt (.inl i) kvs with
    | some d => pure d
    | none => fail
  | .dict kvs, .str a => match dAt (.inr a) kvs with
    | some d => pure d
    | none => fail
  | _, _ => fail
def getS (x : D) (lo hi : Option Int) : M D := match x with
  | .list ds => pure (.list (cut ds lo hi))
  | .tuple ds => pure (.tuple (cut ds lo hi))
  | .str z => if z.length ≤ sline then pure (.str (L2.cutS z lo hi)) else fail
  | _ => fail
/-- the step -1 -/
def isM1 : Expr → Bool
  | .UnaryOp .USub (.Constant (.int 1) _ _) _ => true
  | _ => false
/-- x[::-1] -/
def revD : D → M D
  | .list ds => pure (.list ds.reverse)
  | .tuple ds => pure (.tuple ds.reverse)
  | _ => fail
def asBool : D → M Bool
  | .bool b => pure b
  | _ => fail
def asInt : D → M Int
  | .int i => pure i
  | _ => fail
def intsOf : List D → Option (List Int)
  | [] => some []
  | .int i :: ds => (intsOf ds).map (i :: ·)
  | _ :: _ => none
def boolsOf : List D → Option (List Bool)
  | [] => some []
  | .bool i :: ds => (boolsOf ds).map (i :: ·)
  | _ :: _ => none
def strsOf : List D → Option (List Str)
  | [] => some []
  | .str i :: ds => (strsOf ds).map (i :: ·)
  | _ :: _ => none
def itemsOf : D → Option (List D)
  | .list ds => some ds
  | .tuple ds => some ds
  | _ => none
def maxI : List Int → Int
  | [] => 0
  | x :: r => r.foldl max x
def minI : List Int → Int
  | [] => 0
  | x :: r => r.foldl min x
/-- the built-in functions that make a new list -/
def frB (f : Str) : Bool := decide (f = ("list" : Str)) || decide (f = ("sorted" : Str))
def sortI (ns : List Int) : List Int := ns.mergeSort (fun a b => decide (a ≤ b))
/-- the built-in functions -/
def bi (f : Str) (xs : List D) : M D :=
  if f = ("len" : Str) then match xs with
    | [.list ds] => pure (.int ds.length)
    | [.tuple ds] => pure (.int ds.length)
    | [.str z] => if z.length ≤ sline then pure (.int z.length) else fail
    | _ => fail
  else if f = ("sum" : Str) then match xs with
    | [x] => match (itemsOf x).bind intsOf with
      | some ns => pure (.int ns.sum)
      | none => fail
    | _ => fail
  else if f = ("abs" : Str) then match xs with
    | [.int i] => pure (.int (if i < 0 then -i else i))
    | _ => fail
  else if f = ("max" : Str) then match xs with
    | [.int i, .int j] => pure (.int (if j > i then j else i))
    | [x] => match (itemsOf x).bind intsOf with
      | some (n :: ns) => pure (.int (maxI (n :: ns)))
      | _ => fail
    | _ => fail
  else if f = ("min" : Str) then match xs with
    | [.int i, .int j] => pure (.int (if j < i then j else i))
    | [x] => match (itemsOf x).bind intsOf with
      | some (n :: ns) => pure (.int (minI (n :: ns)))
      | _ => fail
    | _ => fail
  else if f = ("int" : Str) then match xs with
    | [.int i] => pure (.int i)
    | [.bool b] => pure (.int (if b then 1 else 0))
    | _ => fail
  else if f = ("list" : Str) then match xs with
    | [.list ds] => pure (.list ds)
    | [.tuple ds] => pure (.list ds)
    | _ => fail
  else if f = ("tuple" : Str) then match xs with
    | [.list ds] => pure (.tuple ds)
    | [.tuple ds] => pure (.tuple ds)
    | _ => fail
  else if f = ("all" : Str) then match xs with
    | [.list ds] => match boolsOf ds with
      | some bs => pure (.bool (bs.all id))
      | none => fail
    | _ => fail
  else if f = ("any" : Str) then match xs with
    | [.list ds] => match boolsOf ds with
      | some bs => pure (.bool (bs.any id))
      | none => fail
    | _ => fail
  else if f = ("sorted" : Str) then match xs with
    | [.list ds] => match intsOf ds with
      | some ns => pure (.list ((sortI ns).map .int))
      | none => srtD ds
    | [.tuple ds] => srtD ds
    | _ => fail
  else fail
def biN (f : Str) : Bool := decide (f ∈ ([("len" : Str), ("sum" : Str), ("abs" : Str), ("max" : Str), ("min" : Str), ("int" : Str), ("list" : Str), ("tuple" : Str), ("all" : Str), ("any" : Str), ("sorted" : Str)] : List Str))
/-- isinstance(x, T) -/
def tyN : D → Option String
  | .none => some "NoneType" | .bool _ => some "bool" | .int _ => some "int" | .str _ => some "str" | .tuple _ => some "tuple" | .list _ => some "list" | .dict _ => none
def isiT (t : Str) : Option String :=
  if t = ("int" : Str) then some "int" else if t = ("bool" : Str) then some "bool" else if t = ("str" : Str) then some "str"
  else if t = ("tuple" : Str) then some "tuple" else if t = ("list" : Str) then some "list" else none
def isi (d : D) (t : Str) : Option Bool := match tyN d, isiT t with
  | some a, some b => some (a == b || (a == "bool" && b == "int"))
  | _, _ => none
/-- methods of texts with one argument -/
def meth1 (a : Str) (m : Str) (y : D) : M D :=
  if m = ("split" : Str) then match y with
    | .str b => if (b.length == 0) = false ∧ a.length + 2 ≤ sline then pure (.list ((Txt.split a b).map .str)) else fail
    | _ => fail
  else if m = ("partition" : Str) then match y with
    | .str b => if (b.length == 0) = false ∧ a.length ≤ sline then pure (.tuple [.str (Txt.partition a b).1, .str (Txt.partition a b).2.1, .str (Txt.partition a b).2.2]) else fail
    | _ => fail
  else if m = ("join" : Str) then match (itemsOf y).bind strsOf with
    | some ys => if (ys.map (·.length)).sum + ys.length * a.length ≤ 16777216 then pure (.str (Txt.join a ys)) else fail
    | none => fail
  else fail
def methD (x : D) (m : Str) (k : M D) : M D := match x with
  | .str a => do let y ← k; meth1 a m y
  | _ => fail
def methN (m : Str) : Bool := decide (m ∈ ([("split" : Str), ("partition" : Str), ("join" : Str)] : List Str))
/-- what stands ahead of a method's name -/
def plainO : Expr → Bool
  | .Call _ _ _ _ => false
  | _ => true

/-! ### expressions -/
def notStar : Expr → Bool
  | .Starred _ _ => false
  | _ => true
/-- no star among the arguments -/
def noStars (es : List Expr) : Bool := es.all notStar
def evs (f : Expr → M D) : List Expr → M (List D)
  | [] => pure []
  | e :: es => if notStar e = true then do let d ← f e; let ds ← evs f es; pure (d :: ds) else fail
def evPairs (f : Expr → M D) : List (Option Expr) → List Expr → M (List (D × D))
  | [], [] => pure []
  | some k :: ks, v :: vs => do let x ← f k; let y ← f v; let r ← evPairs f ks vs; pure ((x, y) :: r)
  | _, _ => fail
def loadE (G : Gs) (Γ : Cxt) (σ : St) (peek : Bool) (x : Str) : M D :=
  if okName x = true then
    match slot Γ x with
    | some i => match σ[i]? with
      | some (some (d, own)) => if (own = true ∧ peek = false) then fail else pure d
      | _ => fail
    | none => if kindG Γ.sc x = true then match G.cst x with
        | some d => pure d
        | none => fail
      else fail
  else fail
def evP (G : Gs) (Γ : Cxt) (σ : St) (f : Expr → M D) (e : Expr) : M D := match e with
  | .Name x _ => loadE G Γ σ true x
  | e => f e
def evO (f : Expr → M D) : Option Expr → M (Option Int)
  | none => pure none
  | some e => do let d ← f e; let i ← asInt d; pure (some i)
/-- an expression that may be a test -/
def noIf : Expr → Bool
  | .IfExp _ _ _ _ => false
  | _ => true
def tst (f : Expr → M D) (e : Expr) : M Bool := if noIf e = true then do let d ← f e; asBool d else fail
def andL (f : Expr → M D) : List Expr → M D
  | [] => fail
  | [e] => if noIf e = true then f e else fail
  | e :: es => do let b ← tst f e; if b = true then andL f es else pure (.bool false)
def orL (f : Expr → M D) : List Expr → M D
  | [] => fail
  | [e] => if noIf e = true then f e else fail
  | e :: es => do let b ← tst f e; if b = true then pure (.bool true) else orL f es
def cmp1 (x y : M D) (op : CmpOp) : M D := do
  let a ← x
  let b ← y
  let c ← cmpop op a b
  pure (.bool c)
def cmp2 (x y z : M D) (op op' : CmpOp) : M D := do
  let a ← x
  let b ← y
  let t ← cmpop op a b
  if t = true then do
    let c ← z
    let u ← cmpop op' b c
    pure (.bool u)
  else pure (.bool false)
def cmp3 (x y z v : M D) (op op' op2 : CmpOp) : M D := do
  let a ← x
  let b ← y
  let t ← cmpop op a b
  if t = true then do
    let c ← z
    let u ← cmpop op' b c
    if u = true then do
      let d ← v
      let r ← cmpop op2 c d
      pure (.bool r)
    else pure (.bool false)
  else pure (.bool false)
def gname (G : Gs) (Γ : Cxt) (x : Str) : Bool := okName x && kindG Γ.sc x && G.bare x
/-- the items of range(..) inside of list(..), tuple(..) -/
def rngArg (f : Str) : List Expr → Option (List Expr)
  | [.Call (.Name r _) [a] [] _] => if r = ("range" : Str) ∧ (f = ("list" : Str) ∨ f = ("tuple" : Str)) ∧ notStar a = true then some [a] else none
  | [.Call (.Name r _) [a, b] [] _] => if r = ("range" : Str) ∧ (f = ("list" : Str) ∨ f = ("tuple" : Str)) ∧ notStar a = true ∧ notStar b = true then some [a, b] else none
  | _ => none
/-- what a for or a comprehension walks -/
def rangeD (lo : Int) (n : Nat) : List D := (List.range n).map fun i => .int (lo + (i : Nat))
def enumD : Int → List D → List D
  | _, [] => []
  | k, d :: ds => .tuple [.int k, d] :: enumD (k + 1) ds
def zipD : List D → List D → List D
  | x :: xs, y :: ys => .tuple [x, y] :: zipD xs ys
  | _, _ => []
def in62 (i : Int) : Bool := decide (-(2 ^ 62) ≤ i) && decide (i < 2 ^ 62)
def iterC (f : Str) (xs : List D) : M (List D) :=
  if f = ("range" : Str) then match xs with
    | [.int n] => if in62 n = true then pure (rangeD 0 n.toNat) else fail
    | [.int a, .int b] => if in62 a = true ∧ in62 b = true then pure (rangeD a (b - a).toNat) else fail
    | _ => fail
  else if f = ("enumerate" : Str) then match xs with
    | [x] => match itemsOf x with
      | some ds => pure (enumD 0 ds)
      | none => fail
    | [x, .int k] => match itemsOf x with
      | some ds => if in62 k = true then pure (enumD k ds) else fail
      | none => fail
    | _ => fail
  else if f = ("zip" : Str) then match xs with
    | [.list ds, .list es] => pure (zipD ds es)
    | [.tuple ds, .tuple es] => pure (zipD ds es)
    | _ => fail
  else fail
def isTup : Expr → Bool
  | .Tuple _ _ _ => true
  | _ => false
def iterOk (g : Str) (args : List Expr) (tg : Expr) : Bool := noStars args &&
  ((decide (g = ("range" : Str)) && (args.length == 1 || args.length == 2)) ||
   (isTup tg && ((decide (g = ("enumerate" : Str)) && (args.length == 1 || args.length == 2)) || (decide (g = ("zip" : Str)) && args.length == 2))))
def dataI (m : M D) : M (List D) := do
  let d ← m
  match itemsOf d with
  | some ds => pure ds
  | none => fail
def iterE (G : Gs) (Γ : Cxt) (f : Expr → M D) (tg : Expr) : Expr → M (List D)
  | .Call (.Name g p) args [] pos =>
    if gname G Γ g = true ∧ iterOk g args tg = true then do
      let xs ← evs f args
      iterC g xs
    else dataI (f (.Call (.Name g p) args [] pos))
  | .Set _ _ _ => fail
  | e => dataI (f e)
/-- a target: names, tuples of names -/
def setN (Γ : Cxt) (σ : St) (x : Str) (d : D) (own : Bool) : Option St :=
  if okName x = true ∧ (Γ.st.names.lookup x = some .local ∨ Γ.st.names.lookup x = some .cell) then match Γ.N.idxOf? x with
    | some i => some (σ.set i (some (d, own)))
    | none => none
  else none
def bindNs (Γ : Cxt) : St → List Expr → List D → Option St
  | σ, [], [] => some σ
  | σ, .Name x _ :: es, d :: ds => (setN Γ σ x d false).bind fun σ' => bindNs Γ σ' es ds
  | _, _, _ => none
def bindT0 (Γ : Cxt) (σ : St) (tg : Expr) (d : D) : Option St := match tg with
  | .Name x _ => setN Γ σ x d false
  | .Tuple es _ _ => match itemsOf d with
    | some ds => bindNs Γ σ es ds
    | none => none
  | _ => none
def setI (Γ : Cxt) (x : Str) : Option Nat := if okName x = true ∧ (Γ.st.names.lookup x = some .local ∨ Γ.st.names.lookup x = some .cell) then Γ.N.idxOf? x else none
inductive Tg where
  | one (i : Nat) | many (is : List Nat)
def idxs (Γ : Cxt) : List Expr → Option (List Nat)
  | [] => some []
  | .Name x _ :: es => match setI Γ x, idxs Γ es with
    | some i, some is => some (i :: is)
    | _, _ => none
  | _ => none
def tgIdx (Γ : Cxt) : Expr → Option Tg
  | .Name x _ => (setI Γ x).map .one
  | .Tuple es _ _ => (idxs Γ es).map .many
  | _ => none
def setAll : St → List Nat → List D → Option St
  | σ, [], [] => some σ
  | σ, i :: is, d :: ds => setAll (σ.set i (some (d, false))) is ds
  | _, _, _ => none
def bindG (t : Tg) (σ : St) (d : D) : Option St := match t with
  | .one i => some (σ.set i (some (d, false)))
  | .many is => match itemsOf d with
    | some ds => setAll σ is ds
    | none => none
def bindT (Γ : Cxt) (σ : St) (tg : Expr) (d : D) : Option St := match tgIdx Γ tg with
  | some t => bindG t σ d
  | none => none
def lift {α : Type} : Option α → M α
  | some a => pure a
  | none => fail
def tgNames : Expr → List Str
  | .Name x _ => [x]
  | .Tuple es _ _ => es.filterMap fun e => match e with
    | .Name x _ => some x
    | _ => none
  | _ => []
def ownOf (N : List Str) (tg : Expr) : List (Str × Nat) := (tgNames tg).filterMap fun x => (N.idxOf? x).map fun i => (x, i)
def wipe (σ : St) : List Nat → St
  | [] => σ
  | v :: vs => (wipe σ vs).set v none
def compL (bind : D → Option St) (f : St → M Bool) (g : St → M D) : List D → M (List D)
  | [] => pure []
  | d :: ds => do
    let σ' ← lift (bind d)
    let b ← f σ'
    if b = true then do
      let y ← g σ'
      let ys ← compL bind f g ds
      pure (y :: ys)
    else compL bind f g ds
/-- two walks, one in the other -/
def compL2 (bind : D → Option St) (f : St → M Bool) (it : St → M (List D)) (vs : List Nat) (bind2 : St → D → Option St) (f2 : St → M Bool) (g : St → M D) : List D → M (List D)
  | [] => pure []
  | d :: ds => do
    let σ' ← lift (bind d)
    let b ← f σ'
    if b = true then do
      let es ← it σ'
      let ys ← compL (fun e => bind2 (wipe σ' vs) e) f2 g es
      let zs ← compL2 bind f it vs bind2 f2 g ds
      pure (ys ++ zs)
    else compL2 bind f it vs bind2 f2 g ds
def own2 (N : List Str) (tg tg1 : Expr) : List (Str × Nat) := ownOf N tg ++ ownOf N tg1
def isSet : Expr → Bool
  | .Set _ _ _ => true
  | _ => false
def ifsE (f : Expr → M D) : List Expr → M Bool
  | [] => pure true
  | [c] => tst f c
  | _ => fail
/-- no exception leaves a comprehension -/
def quiet {α : Type} (m : M α) : M α := fun s => match m s with
  | .ok a s' => .ok a s'
  | _ => .fail

def compB (rec : St → Expr → M D) (Γ : Cxt) (σ : St) (tg : Expr) (ifs : List Expr) (elt : Expr) (items : List D) : M (List D) :=
  quiet (compL (fun d => bindT Γ σ tg d) (fun σ' => ifsE (rec σ') ifs) (fun σ' => rec σ' elt) items)
def compB2 (G : Gs) (rec : St → Expr → M D) (Γ : Cxt) (σ : St) (tg : Expr) (ifs : List Expr) (tg1 it1 : Expr) (ifs1 : List Expr) (elt : Expr) (items : List D) : M (List D) :=
  quiet (compL2 (fun d => bindT Γ σ tg d) (fun σ' => ifsE (rec σ') ifs) (fun σ' => iterE G Γ (rec σ') tg1 it1) ((ownOf Γ.N tg1).map (·.2)) (fun σ d => bindT Γ σ tg1 d) (fun σ' => ifsE (rec σ') ifs1) (fun σ' => rec σ' elt) items)
def callQ (G : Gs) (f : Str) (args : List Expr) (xs : List D) : M D := match args with
  | [] => quiet (G.call f xs)
  | _ :: _ => G.call f xs
/-- isinstance: with a type, with two types -/
def isiE (G : Gs) (Γ : Cxt) (f : Expr → M D) : List Expr → M D
  | [a, .Name t _] => if gname G Γ t = true ∧ notStar a = true ∧ (isiT t).isSome = true then do
      let x ← f a
      match isi x t with
      | some b => pure (.bool b)
      | none => fail
    else fail
  | [a, .Tuple [.Name t _, .Name t2 _] _ _] => if (gname G Γ t = true ∧ gname G Γ t2 = true) ∧ notStar a = true ∧ (isiT t).isSome = true ∧ (isiT t2).isSome = true then do
      let x ← f a
      match isi x t, isi x t2 with
      | some b, some c => pure (.bool (b || c))
      | _, _ => fail
    else fail
  | _ => fail
/-- list(range(..)), tuple(range(..)) -/
def rngE (G : Gs) (Γ : Cxt) (f : Expr → M D) (h : Str) (rs : List Expr) : M D :=
  if gname G Γ "range" = true then do
    let xs ← evs f rs
    let ds ← iterC "range" xs
    if ds.length ≤ sline then pure (if h = ("list" : Str) then .list ds else .tuple ds) else fail
  else fail
def evF (G : Gs) (rec : Cxt → St → Expr → M D) (Γ : Cxt) (σ : St) : Expr → M D
  | .Constant (.int i) _ _ => pure (.int i)
  | .Constant (.bool b) _ _ => pure (.bool b)
  | .Constant .none _ _ => pure .none
  | .Constant (.str x) _ _ => pure (.str x)
  | .Name x _ => loadE G Γ σ false x
  | .BinOp a op b _ => do let x ← evP G Γ σ (rec Γ σ) a; let y ← evP G Γ σ (rec Γ σ) b; binop op x y
  | .UnaryOp .USub a _ => do let x ← rec Γ σ a; let i ← asInt x; pure (.int (-i))
  | .UnaryOp .Not a _ => do let b ← tst (rec Γ σ) a; pure (.bool (!b))
  | .BoolOp .And es _ => andL (rec Γ σ) es
  | .BoolOp .Or es _ => orL (rec Γ σ) es
  | .Compare a [op] [b] _ => if behindInMarks op b = false then cmp1 (evP G Γ σ (rec Γ σ) a) (evP G Γ σ (rec Γ σ) b) op else fail
  | .Compare a [op, op'] [b, c] _ => if lastMarks [op, op'] [b, c] = false then cmp2 (evP G Γ σ (rec Γ σ) a) (evP G Γ σ (rec Γ σ) b) (evP G Γ σ (rec Γ σ) c) op op' else fail
  | .Compare a [op, op', op2] [b, c, d] _ => if lastMarks [op, op', op2] [b, c, d] = false then cmp3 (evP G Γ σ (rec Γ σ) a) (evP G Γ σ (rec Γ σ) b) (evP G Γ σ (rec Γ σ) c) (evP G Γ σ (rec Γ σ) d) op op' op2 else fail
  | .IfExp c a b _ => do let t ← tst (rec Γ σ) c; if t = true then rec Γ σ a else rec Γ σ b
  | .Tuple es _ _ => do let ds ← evs (rec Γ σ) es; if ds.length ≤ sline then pure (.tuple ds) else fail
  | .List es _ => do let ds ← evs (rec Γ σ) es; if ds.length ≤ sline then pure (.list ds) else fail
  | .Dict ks vs _ => if ks.length ≤ 15 ∧ ks.all (·.isSome) = true ∧ ks.length = vs.length then do
      let ps ← evPairs (rec Γ σ) ks vs
      if dOk ps = true ∧ (ps.map fun p => keyD p.1).Nodup then pure (.dict ps) else fail
    else fail
  | .Subscript a (.Slice lo hi none _) _ => do
    let x ← evP G Γ σ (rec Γ σ) a
    let l ← evO (evP G Γ σ (rec Γ σ)) lo
    let h ← evO (evP G Γ σ (rec Γ σ)) hi
    getS x l h
  | .Subscript a (.Slice none none (some st) _) _ => if isM1 st = true then do
      let x ← evP G Γ σ (rec Γ σ) a
      revD x
    else fail
  | .Subscript a i _ => do
    let x ← evP G Γ σ (rec Γ σ) a
    let k ← evP G Γ σ (rec Γ σ) i
    getD' x k
  | .ListComp elt [⟨tg, it, ifs, 0⟩] sc _ =>
    if L2.blkC Γ.N Γ.sc sc (ownOf Γ.N tg) = true then do
      let items ← iterE G Γ (evP G Γ σ (rec Γ σ)) tg it
      let ys ← compB (rec ⟨Γ.N, L2.relS sc Γ.sc, sc⟩) ⟨Γ.N, L2.relS sc Γ.sc, sc⟩ (wipe σ ((ownOf Γ.N tg).map (·.2))) tg ifs elt items
      if ys.length ≤ sline then pure (.list ys) else fail
    else fail
  | .ListComp elt [⟨tg, it, ifs, 0⟩, ⟨tg1, it1, ifs1, 0⟩] sc _ =>
    if L2.blkC Γ.N Γ.sc sc (own2 Γ.N tg tg1) = true ∧ isSet it1 = false then do
      let items ← iterE G Γ (evP G Γ σ (rec Γ σ)) tg it
      let ys ← compB2 G (rec ⟨Γ.N, L2.relS sc Γ.sc, sc⟩) ⟨Γ.N, L2.relS sc Γ.sc, sc⟩ (wipe σ ((own2 Γ.N tg tg1).map (·.2))) tg ifs tg1 it1 ifs1 elt items
      if ys.length ≤ sline then pure (.list ys) else fail
    else fail
  | .Call (.Name f _) args [] _ =>
    if okName f = true ∧ kindG Γ.sc f = true then
      if G.bare f = true then
        if f = ("isinstance" : Str) then isiE G Γ (evP G Γ σ (rec Γ σ)) args
        else match rngArg f args with
        | some rs => rngE G Γ (evP G Γ σ (rec Γ σ)) f rs
        | none => if biN f = true ∧ noStars args = true then do
          let xs ← evs (evP G Γ σ (rec Γ σ)) args
          bi f xs
        else fail
      else match G.fns f with
        | some fg => if noStars args = true then (if fg.fl = true then do
            let xs ← evs (evP G Γ σ (rec Γ σ)) args
            let d ← callQ G f args xs
            if flat d = true then pure d else fail
          else do
            let xs ← evs (rec Γ σ) args
            callQ G f args xs) else fail
        | none => fail
    else fail
  | .Call (.Attribute o m q) [e] [] r => if (q.endLine == r.line) = true ∧ notStar e = true ∧ plainO o = true ∧ methN m = true then do
      let x ← evP G Γ σ (rec Γ σ) o
      methD x m (evP G Γ σ (rec Γ σ) e)
    else fail
  | _ => fail
def evE (G : Gs) : Nat → Cxt → St → Expr → M D
  | 0 => fun _ _ _ => fail
  | n + 1 => evF G (evE G n)

/-! ### statements -/
inductive Flow where
  | nx (σ : St) | ret (d : D) (own : Bool) | brk (σ : St) | ct (σ : St) | rz (x : Exc) (σ : St)
def stE {α : Type} (m : M α) (σ : St) (k : α → M Flow) : M Flow := fun s => match m s with
  | .ok a s' => k a s'
  | .exc x s' => .ok (.rz x σ) s'
  | .fail => .fail
/-- the names whose lists an expression may keep -/
def escP (f : Expr → List Str) : Expr → List Str
  | .Name _ _ => []
  | e => f e
def esc (G : Gs) (sc : Scope) : Nat → Expr → List Str
  | 0, _ => []
  | n + 1, e =>
    let f := esc G sc n
    let p := escP f
    match e with
    | .Name x _ => [x]
    | .BinOp a _ b _ => p a ++ p b
    | .UnaryOp _ a _ => f a
    | .BoolOp _ es _ => es.flatMap f
    | .Compare a _ bs _ => p a ++ bs.flatMap p
    | .IfExp c a b _ => f c ++ f a ++ f b
    | .Tuple es _ _ => es.flatMap f
    | .List es _ => es.flatMap f
    | .Dict ks vs _ => (ks.filterMap id).flatMap f ++ vs.flatMap f
    | .Subscript a (.Slice lo hi _ _) _ => p a ++ (lo.map p).getD [] ++ (hi.map p).getD []
    | .Subscript a i _ => p a ++ p i
    | .ListComp elt [⟨_, it, ifs, _⟩] _ _ => p it ++ f elt ++ ifs.flatMap f
    | .ListComp elt [⟨_, it, ifs, _⟩, ⟨_, it1, ifs1, _⟩] _ _ => p it ++ f elt ++ ifs.flatMap f ++ f it1 ++ ifs1.flatMap f
    | .Call (.Name g _) args _ _ => if G.bare g = true then args.flatMap p else match G.fns g with
      | some fg => if fg.fl = true then args.flatMap p else args.flatMap f
      | none => args.flatMap f
    | .Call (.Attribute o _ _) args _ _ => p o ++ args.flatMap p
    | _ => []
/-- is it a list made anew -/
def isL : D → Bool
  | .list _ => true
  | .dict kvs => dOk kvs
  | _ => false
def frF (G : Gs) : Nat → Expr → Bool
  | 0, _ => false
  | n + 1, e => match e with
      | .List _ _ => true
      | .Dict _ _ _ => true
      | .ListComp _ _ _ _ => true
      | .BinOp _ _ _ _ => true
      | .Subscript _ (.Slice _ _ none _) _ => true
      | .Subscript _ (.Slice none none (some _) _) _ => true
      | .IfExp _ a b _ => frF G n a && frF G n b
      | .Call (.Name f _) _ _ _ => if G.bare f = true then frB f else match G.fns f with
        | some fg => fg.fr && !fg.fl
        | none => false
      | _ => false
def freshE (G : Gs) (n : Nat) (e : Expr) (d : D) : Bool := frF G n e && isL d
def frz : St → List Nat → St
  | σ, [] => σ
  | σ, i :: is => match σ[i]? with
    | some (some (d, _)) => frz (σ.set i (some (d, false))) is
    | _ => frz σ is
def freeze (Γ : Cxt) (σ : St) (xs : List Str) : St := frz σ (xs.filterMap (slot Γ))
def fz (G : Gs) (Γ : Cxt) (σ : St) (e : Expr) : St := freeze Γ σ (esc G Γ.sc 40 e)
/-- a list that a name owns -/
def ownL (Γ : Cxt) (σ : St) (x : Str) : Option (Nat × List D) :=
  if okName x = true ∧ kindL Γ.sc x = true then match slot Γ x with
    | some i => match σ[i]? with
      | some (some (.list ds, true)) => some (i, ds)
      | _ => none
    | none => none
  else none
/-- a dict that a name owns -/
def ownD (Γ : Cxt) (σ : St) (x : Str) : Option (Nat × List (D × D)) :=
  if okName x = true ∧ kindL Γ.sc x = true then match slot Γ x with
    | some i => match σ[i]? with
      | some (some (.dict kvs, true)) => some (i, kvs)
      | _ => none
    | none => none
  else none
def isName : Expr → Option Str
  | .Name x _ => some x
  | _ => none
def whileL (t : St → M Bool) (body : St → M Flow) : Nat → St → M Flow
  | 0, _ => fail
  | w + 1, σ => stE (t σ) σ fun b => if b = true then do
      let fl ← body σ
      match fl with
      | .nx σ' => whileL t body w σ'
      | .ct σ' => whileL t body w σ'
      | .brk σ' => pure (.nx σ')
      | .ret d o => pure (.ret d o)
      | .rz x σ' => pure (.rz x σ')
    else pure (.nx σ)
def forL (bind : St → D → Option St) (body : St → M Flow) : List D → St → M Flow
  | [], σ => pure (.nx σ)
  | d :: ds, σ => match bind σ d with
    | none => fail
    | some σ1 => do
      let fl ← body σ1
      match fl with
      | .nx σ' => forL bind body ds σ'
      | .ct σ' => forL bind body ds σ'
      | .brk σ' => pure (.nx σ')
      | .ret d o => pure (.ret d o)
      | .rz x σ' => pure (.rz x σ')
def thenF (m : M Flow) (k : St → M Flow) : M Flow := do
  let fl ← m
  match fl with
  | .nx σ => k σ
  | fl => pure fl
def oneLine : List Expr → Bool
  | .Name _ p :: es => es.all fun e => match e with
    | .Name _ q => q.line == p.line
    | _ => false
  | _ => false
def namesOf : List Expr → Option (List Str)
  | [] => some []
  | .Name x _ :: es => (namesOf es).map (x :: ·)
  | _ => none
def setNs (Γ : Cxt) : St → List (Str × D × Bool) → Option St
  | σ, [] => some σ
  | σ, (x, d, o) :: r => (setN Γ σ x d o).bind fun σ' => setNs Γ σ' r
def isLocal (sc : Scope) (x : Str) : Bool := match sc.names.lookup x with
  | some .local => true | _ => false
/-- the stores of a pair or a triple made in the head -/
def parOk (Γ : Cxt) (ts vs : List Expr) (xs : List Str) : Bool :=
  (ts.length == 2 || ts.length == 3) && vs.length == ts.length && oneLine ts && xs.all (isLocal Γ.sc) && xs.eraseDups.length == xs.length && vs.all notStar && !(vs.all (foldedForSure 8)) && !(vs.all (constantsAlone 8))
def listComp : Expr → Bool
  | .ListComp _ _ _ _ => true | .SetComp _ _ _ _ => true | .DictComp _ _ _ _ _ => true
  | _ => false
def setOk (Γ : Cxt) (x : Str) : Bool := okName x && (match Γ.st.names.lookup x with
  | some .local => true | some .cell => true | _ => false) && (Γ.N.idxOf? x).isSome
def nx1 (o : Option St) : M Flow := lift (o.map .nx)
/-- return e -/
def stRet (G : Gs) (ev : Cxt → St → Expr → M D) (Γ : Cxt) (σ : St) (e : Expr) : M Flow :=
  stE (ev Γ (freeze Γ σ Γ.N) e) (freeze Γ σ Γ.N) fun d => pure (.ret d (freshE G 40 e d))
def stRetN (ev : Cxt → St → Expr → M D) (Γ : Cxt) (σ : St) (x : Str) (p : Pos) : M Flow := match ownL Γ σ x with
  | some (_, ds) => pure (.ret (.list ds) true)
  | none => match ownD Γ σ x with
    | some (_, kvs) => if dOk kvs = true then pure (.ret (.dict kvs) true) else fail
    | none => stE (ev Γ σ (.Name x p)) σ fun d => pure (.ret d false)
def iterNames : Expr → List Str
  | .Name x _ => [x]
  | .Call _ args _ _ => args.filterMap isName
  | _ => []
def stFor (G : Gs) (ev : Cxt → St → Expr → M D) (ex : St → List Stmt → M Flow) (Γ : Cxt) (σ : St) (tg it : Expr) (body : List Stmt) : M Flow :=
  let σ0 := freeze Γ (fz G Γ σ it) (iterNames it)
  stE (iterE G Γ (ev Γ σ0) tg it) σ0 fun items => forL (fun σ d => bindT Γ σ tg d) (fun σ => ex σ body) items σ0
/-- x = e -/
def stAsg (G : Gs) (ev : Cxt → St → Expr → M D) (Γ : Cxt) (σ : St) (x : Str) (e : Expr) : M Flow :=
  if setOk Γ x = true then stE (ev Γ (fz G Γ σ e) e) (fz G Γ σ e) fun d => nx1 (setN Γ (fz G Γ σ e) x d (freshE G 40 e d)) else fail
/-- x = l.pop(..) -/
def stPop (ev : Cxt → St → Expr → M D) (Γ : Cxt) (σ : St) (x l : Str) (q r : Pos) (args : List Expr) : M Flow :=
  if setOk Γ x = true ∧ (q.endLine == r.line) = true ∧ noStars args = true then match ownL Γ σ l with
    | some (i, ds) => match args with
      | [] => match ds.getLast? with
        | some d => nx1 (setN Γ (σ.set i (some (.list ds.dropLast, true))) x d false)
        | none => fail
      | [e] => stE (ev Γ σ e) σ fun j => match j with
        | .int j => match L2.ixN ds.length j with
          | some k => match ds[k]? with
            | some d => if in62 j = true then nx1 (setN Γ (σ.set i (some (.list (ds.eraseIdx k), true))) x d false) else fail
            | none => fail
          | none => fail
        | _ => fail
      | _ => fail
    | none => fail
  else fail
def idxL (Γ : Cxt) (xs : List Str) : List Nat := xs.filterMap fun x => Γ.N.idxOf? x
def isNil : Expr → Bool
  | .List [] _ => true
  | .Dict [] [] _ => true
  | _ => false
def scal : D → Bool
  | .int _ => true
  | .bool _ => true
  | .none => true
  | .str _ => true
  | _ => false
/-- the stores of a pair: what is made anew is the name's own -/
def setPar (ns : List Bool) (σ : St) (is : List Nat) (ds : List D) : Option St := match ns, is, ds with
  | [p, q], [i, j], [d, e] => some ((σ.set i (some (d, p && isL d))).set j (some (e, q && isL e)))
  | _, _, _ => setAll σ is ds
/-- a, b = e, f -/
def stPar (G : Gs) (ev : Cxt → St → Expr → M D) (Γ : Cxt) (σ : St) (ts vs : List Expr) : M Flow := match namesOf ts with
  | some xs => if parOk Γ ts vs xs = true ∧ xs.all (setOk Γ) = true then
      let σ0 := freeze Γ σ (vs.flatMap (esc G Γ.sc 40))
      stE (evs (ev Γ σ0) vs) σ0 fun ds => nx1 (setPar (vs.map (frF G 40)) σ0 (idxL Γ xs) ds)
    else fail
  | none => fail
def stTup (G : Gs) (ev : Cxt → St → Expr → M D) (Γ : Cxt) (σ : St) (tg e : Expr) : M Flow :=
  stE (ev Γ (fz G Γ σ e) e) (fz G Γ σ e) fun d => nx1 (bindT Γ (fz G Γ σ e) tg d)
/-- a pair whose stores wait for the tuple -/
def offPar (Γ : Cxt) (ts vs : List Expr) : Bool := (ts.length == 2 || ts.length == 3) && vs.length == ts.length && vs.all notStar && !(ts.all fun e => match e with
  | .Name x p => isLocal Γ.sc x && p.line == (ts.head?.map (·.pos.line)).getD 0
  | _ => false)
def noSlice : Expr → Bool
  | .Slice _ _ _ _ => false
  | _ => true
/-- l[i] = e -/
def stSub (G : Gs) (ev : Cxt → St → Expr → M D) (Γ : Cxt) (σ : St) (l : Str) (i e : Expr) : M Flow :=
  let σ0 := fz G Γ σ e
  if (okName l = true ∧ (slot Γ l).isSome = true) ∧ noSlice i = true then stE (ev Γ σ0 e) σ0 fun d => match ownL Γ σ0 l with
    | some (k, ds) => stE (ev Γ σ0 i) σ0 fun j => match j with
      | .int j => match L2.ixN ds.length j with
        | some n => pure (.nx (σ0.set k (some (.list (ds.set n d), true))))
        | none => fail
      | _ => fail
    | none => match ownD Γ σ0 l with
      | some (k, kvs) => stE (ev Γ σ0 i) σ0 fun j => match keyD j with
        | some _ => if kvs.length < 1000 then pure (.nx (σ0.set k (some (.dict (dPut kvs j d), true)))) else fail
        | none => fail
      | none => fail
  else fail
def augI (op : Operator) (a b : Int) : Option Int := match op with
  | .Add => some (a + b)
  | .Sub => some (a - b)
  | .Mult => if a.natAbs.log2 + b.natAbs.log2 < 1000000 then some (a * b) else none
  | _ => none
/-- x op= e -/
def stAug (ev : Cxt → St → Expr → M D) (Γ : Cxt) (σ : St) (x : Str) (op : Operator) (e : Expr) : M Flow :=
  if setOk Γ x = true then match Γ.N.idxOf? x with
    | some i => match σ[i]? with
      | some (some (.int a, _)) => stE (ev Γ σ e) σ fun d => match d with
        | .int b => match augI op a b with
          | some c => nx1 (setN Γ σ x (.int c) false)
          | none => fail
        | _ => fail
      | _ => fail
    | none => fail
  else fail
/-- l[i] op= e -/
def stAugS (ev : Cxt → St → Expr → M D) (Γ : Cxt) (σ : St) (l : Str) (i : Expr) (op : Operator) (e : Expr) : M Flow :=
  if (okName l = true ∧ (slot Γ l).isSome = true) ∧ noSlice i = true then match ownL Γ σ l with
    | some (k, ds) => stE (ev Γ σ i) σ fun j => match j with
      | .int j => match L2.ixN ds.length j with
        | some n => match ds[n]? with
          | some (.int a) => stE (ev Γ σ e) σ fun d => match d with
            | .int b => match augI op a b with
              | some c => pure (.nx (σ.set k (some (.list (ds.set n (.int c)), true))))
              | none => fail
            | _ => fail
          | _ => fail
        | none => fail
      | _ => fail
    | none => fail
  else fail
/-- l.append(e) -/
def stApp (G : Gs) (ev : Cxt → St → Expr → M D) (Γ : Cxt) (σ : St) (l : Str) (q r : Pos) (e : Expr) : M Flow :=
  let σ0 := fz G Γ σ e
  if (q.endLine == r.line) = true ∧ notStar e = true then match ownL Γ σ0 l with
    | some (k, ds) => stE (ev Γ σ0 e) σ0 fun d => if ds.length < sline then pure (.nx (σ0.set k (some (.list (ds ++ [d]), true)))) else fail
    | none => fail
  else fail
/-- l.extend(e) -/
def stExt (G : Gs) (ev : Cxt → St → Expr → M D) (Γ : Cxt) (σ : St) (l : Str) (q r : Pos) (e : Expr) : M Flow :=
  let σ0 := fz G Γ σ e
  if (q.endLine == r.line) = true ∧ notStar e = true then match ownL Γ σ0 l with
    | some (k, ds) => stE (ev Γ σ0 e) σ0 fun d => match d with
      | .list es => if ds.length + es.length ≤ sline then pure (.nx (σ0.set k (some (.list (ds ++ es), true)))) else fail
      | _ => fail
    | none => fail
  else fail
/-- l.pop() -/
def stPop0 (Γ : Cxt) (σ : St) (l : Str) (q r : Pos) : M Flow :=
  if (q.endLine == r.line) = true then match ownL Γ σ l with
    | some (i, ds) => if ds.length = 0 then fail else pure (.nx (σ.set i (some (.list ds.dropLast, true))))
    | none => fail
  else fail
def stExp (G : Gs) (ev : Cxt → St → Expr → M D) (Γ : Cxt) (σ : St) (e : Expr) : M Flow :=
  if listComp e = true then fail else stE (ev Γ (fz G Γ σ e) e) (fz G Γ σ e) fun _ => pure (.nx (fz G Γ σ e))
def stMet (G : Gs) (ev : Cxt → St → Expr → M D) (Γ : Cxt) (σ : St) (l m : Str) (q r : Pos) (args : List Expr) : M Flow :=
  if m = ("append" : Str) then match args with
    | [e] => stApp G ev Γ σ l q r e
    | _ => fail
  else if m = ("pop" : Str) then match args with
    | [] => stPop0 Γ σ l q r
    | _ => fail
  else if m = ("extend" : Str) then match args with
    | [e] => stExt G ev Γ σ l q r e
    | _ => fail
  else fail
def stRaise (G : Gs) (Γ : Cxt) (σ : St) (c m : Str) : M Flow :=
  if okName c = true ∧ kindG Γ.sc c = true ∧ G.exc c = true then (if G.ini c = true then pure (.rz ⟨c, [("reason", .str m)]⟩ σ) else pure (.rz ⟨c, []⟩ σ)) else fail
/-- what a clause hands back: x the error, on the error's name -/
def hexp (G : Gs) (Γ : Cxt) (on : Option Str) (x : Exc) : Nat → Expr → Option D
  | 0, _ => none
  | _ + 1, .Constant (.int i) _ _ => some (.int i)
  | _ + 1, .Constant (.str i) _ _ => some (.str i)
  | _ + 1, .Constant (.bool i) _ _ => some (.bool i)
  | _ + 1, .Constant .none _ _ => some .none
  | _ + 1, .Call (.Name f _) [.Name n _, .Name F _] [] _ =>
    if f = ("isinstance" : Str) ∧ gname G Γ f = true ∧ on = some n ∧ (okName n = true ∧ okName F = true) ∧ kindG Γ.sc F = true then (G.sub x.cls F).map .bool else none
  | _ + 1, .Attribute (.Name n _) f _ => if f = ("reason" : Str) ∧ on = some n ∧ okName n = true then (if G.ini x.cls = true then (match x.flds with
    | [(_, .str m)] => some (.str m)
    | _ => none) else none) else none
  | k + 1, .BoolOp .And [a, b] _ => match hexp G Γ on x k a, hexp G Γ on x k b with
    | some (.bool p), some (.bool q) => some (.bool (p && q))
    | _, _ => none
  | k + 1, .BinOp a .Add b _ => match hexp G Γ on x k a, hexp G Γ on x k b with
    | some (.str p), some (.str q) => if p.length + q.length ≤ sline then some (.str (p ++ q)) else none
    | _, _ => none
  | k + 1, .IfExp (.Call f as ks p) a b _ => match hexp G Γ on x k (.Call f as ks p) with
    | some (.bool t) => if t = true then hexp G Γ on x k a else hexp G Γ on x k b
    | _ => none
  | _, _ => none
def hexpL (G : Gs) (Γ : Cxt) (on : Option Str) (x : Exc) : List Expr → Option (List D)
  | [] => some []
  | e :: es => if notStar e = true then (match hexp G Γ on x 5 e, hexpL G Γ on x es with
    | some d, some ds => some (d :: ds)
    | _, _ => none) else none
def hret (G : Gs) (Γ : Cxt) (on : Option Str) (x : Exc) : Expr → Option D
  | .List es _ => if es.length ≤ 5 then (hexpL G Γ on x es).map .list else none
  | e => hexp G Γ on x 5 e
def onIn (Γ : Cxt) (on : Option Str) (n : Nat) : Bool := match on with
  | none => true
  | some x => match Γ.N.idxOf? x with
    | some i => decide (i < n)
    | none => false
abbrev Clause := Str × Option Str × Expr
def clauses (G : Gs) (Γ : Cxt) (x : Exc) (σ' : St) : List Clause → M Flow
  | [] => pure (.rz x σ')
  | (c, on, e) :: r => if x.cls = c then (match hret G Γ on x e with
      | some d => pure (.ret d false)
      | none => fail) else clauses G Γ x σ' r
def catchF (G : Gs) (Γ : Cxt) (l : List Clause) (fl : Flow) : M Flow := match fl with
  | .rz x σ' => if G.exc x.cls = true ∧ (l.all fun p => onIn Γ p.2.1 σ'.length) = true then clauses G Γ x σ' l else fail
  | .nx σ' => pure (.nx σ')
  | .ret d o => pure (.ret d o)
  | .brk σ' => pure (.brk σ')
  | .ct σ' => pure (.ct σ')
def onOk (Γ : Cxt) : Option Str → Bool
  | none => true
  | some n => isLocal Γ.sc n && (Γ.N.idxOf? n).isSome
def clOk (G : Gs) (Γ : Cxt) (p : Clause) : Bool := okName p.1 && kindG Γ.sc p.1 && G.exc p.1 && onOk Γ p.2.1
def stTry (G : Gs) (ex : St → List Stmt → M Flow) (Γ : Cxt) (σ : St) (body : List Stmt) (l : List Clause) : M Flow :=
  if l.all (clOk G Γ) = true ∧ l ≠ [] then M.bind (ex σ body) (catchF G Γ l) else fail
/-- turns that a while may take -/
def msr (σ : St) : Nat := (σ.map fun s => match s with
  | some (.int i, _) => i.natAbs
  | some (.list ds, _) => ds.length
  | some (.tuple ds, _) => ds.length
  | _ => 0).sum
def raiseOf : Expr → Option (Str × Str)
  | .Call (.Name c _) [.Constant (.str m) _ _] [] _ => some (c, m)
  | _ => none
def tryOf : List ExceptHandler → Option (List Clause)
  | [] => some []
  | .ExceptHandler (some (.Name c _)) on [.Return (some e) _] _ :: r => match tryOf r with
    | some l => some ((c, on, e) :: l)
    | none => none
  | _ => none
def exec1 (G : Gs) (ev : Cxt → St → Expr → M D) (w : Nat) (ex : St → List Stmt → M Flow) (Γ : Cxt) (σ : St) : Stmt → M Flow
  | .Pass _ => pure (.nx σ)
  | .Break _ => pure (.brk σ)
  | .Continue _ => pure (.ct σ)
  | .Return none _ => pure (.ret .none false)
  | .Return (some (.Name x p)) _ => stRetN ev Γ σ x p
  | .Return (some e) _ => stRet G ev Γ σ e
  | .If c a b _ => stE (tst (ev Γ σ) c) σ fun t => if t = true then ex σ a else ex σ b
  | .While c body [] _ => whileL (fun σ => tst (ev Γ σ) c) (fun σ => ex σ body) (w + msr σ) σ
  | .For tg it body [] _ => stFor G ev ex Γ σ tg it body
  | .Assign [.Name x _] (.Call (.Attribute (.Name l p) m q) args [] r) pos => if m = ("pop" : Str) then stPop ev Γ σ x l q r args else stAsg G ev Γ σ x (.Call (.Attribute (.Name l p) m q) args [] r)
  | .Assign [.Name x _] e _ => stAsg G ev Γ σ x e
  | .Assign [.Tuple ts k p] (.Tuple vs k2 p2) _ => if offPar Γ ts vs = true then stTup G ev Γ σ (.Tuple ts k p) (.Tuple vs k2 p2) else stPar G ev Γ σ ts vs
  | .Assign [.Tuple ts k p] e _ => stTup G ev Γ σ (.Tuple ts k p) e
  | .Assign [.Subscript (.Name l _) i _] e _ => stSub G ev Γ σ l i e
  | .AugAssign (.Name x _) op e _ => stAug ev Γ σ x op e
  | .AugAssign (.Subscript (.Name l _) i _) op e _ => stAugS ev Γ σ l i op e
  | .Expr (.Call (.Attribute (.Name l _) m q) args [] r) _ => stMet G ev Γ σ l m q r args
  | .Expr e _ => stExp G ev Γ σ e
  | .Raise (some e) none _ => match raiseOf e with
    | some (c, m) => stRaise G Γ σ c m
    | none => fail
  | .Try body hs [] [] _ => match tryOf hs with
    | some l => stTry G ex Γ σ body l
    | none => fail
  | _ => fail
def exec (G : Gs) (ev : Cxt → St → Expr → M D) (w : Nat) (Γ : Cxt) : Nat → St → List Stmt → M Flow
  | 0, _, _ => fail
  | _ + 1, σ, [] => pure (.nx σ)
  | n + 1, σ, st :: rest => thenF (exec1 G ev w (exec G ev w Γ n) Γ σ st) fun σ' => exec G ev w Γ n σ' rest

/-! ### defs -/
structure Fd where
  ps : List Str
  N : List Str
  sc : Scope
  body : List Stmt
  flg : Flg
/-- the program: its defs by name; prim: what the drawing defs do -/
structure Pg where
  fd : Str → Option Fd
  prim : Str → Option (List D → M D)
  cst : Str → Option D
  bare : Str → Bool
  exc : Str → Bool
  ini : Str → Bool
  sub : Str → Str → Option Bool
def Pg.flg (P : Pg) (f : Str) : Option Flg := match P.prim f with
  | some _ => some ⟨false, true⟩
  | none => (P.fd f).map (·.flg)
def start (N : List Str) (ds : List D) : St := (ds.map fun d => some (d, false)) ++ List.replicate (N.length - ds.length) none
def endF (fg : Flg) : Flow → M D
  | .nx _ => if fg.fr = true then fail else pure .none
  | .ret d own => if (fg.fr = true ∧ own = false) ∨ (fg.fl = true ∧ flat d = false) then fail else pure d
  | .rz x _ => throwX x
  | _ => fail
def Pg.gl (P : Pg) (call : Str → List D → M D) : Gs := ⟨P.cst, P.flg, call, P.bare, P.exc, P.ini, P.sub⟩
def runFd (G : Gs) (w : Nat) (F : Fd) (ds : List D) : M D :=
  if ds.length = F.ps.length then do
    let fl ← quiet (exec G (evE G 40) w ⟨F.N, F.sc, F.sc⟩ 60 (start F.N ds) F.body)
    endF F.flg fl
  else fail
def Pg.call (P : Pg) (w : Nat) : Nat → Str → List D → M D
  | 0, _, _ => fail
  | k + 1, f, ds => match P.prim f with
    | some p => p ds
    | none => match P.fd f with
      | some F => runFd (P.gl (P.call w k)) w F ds
      | none => fail
end Py

set_option Elab.async false
set_option linter.all false
set_option maxRecDepth 100000
set_option maxHeartbeats 2000000
/-! An own exception over ValueError whose __init__ says super().__init__(x); self.f = x. -/
namespace PySem
namespace RefX
open PySem.W PySem.Calls PyProof.Rows PySem.HandSPX
def iA (p1 p2 : Pos) : Arguments := { posonlyargs := [], args := [{ arg := "self", annotation := none, pos := p1 }, { arg := "reason", annotation := none, pos := p2 }], vararg := none, kwonlyargs := [], kw_defaults := [], kwarg := none, defaults := [] }
def iB (a1 a2 a3 a4 a5 a6 q1 q2 q3 q4 : Pos) : List Stmt :=
  [.Expr (.Call (.Attribute (.Call (.Name "super" a1) [] [] a2) "__init__" a3) [.Name "reason" a4] [] a5) a6, .Assign [.Attribute (.Name "self" q1) "reason" q2] (.Name "reason" q3) q4]
def rS : Scope := { kind := .function, names := [(PySem.Str.ofString "self", .local), (PySem.Str.ofString "reason", .local), (PySem.Str.ofString "__class__", .free), (PySem.Str.ofString "super", .globalImplicit)], isGenerator := false, isCoroutine := false, more := [] }
/-- what the written part says of the class at C, of its __init__ at fI -/
structure RefTxt (prog : Program) (K : Frag) (C fI : Addr) : Prop where
  cls : ∃ nm q N bs bm sn sub ab col dd k0 k1 k2 k3 k5, K.lookup C = some (excClassObj nm q C N bs bm true sn sub ab col dd k0 k1 k2 k3 k5 "ValueError.__new__") ∧ refsVE bm = true
  sup : ks_superIn K C C "__init__" = some (some (.builtin "ValueError.__init__"))
  sa : findIn K (.ref C) "__setattr__" = some (some (.builtin "object.__setattr__"))
  ga : findIn K (.ref C) "__getattribute__" = some (some (.builtin "BaseException.__getattribute__"))
  gg : findIn K (.ref C) "__getattr__" = some none
  noN : findIn K (.ref C) "reason" = some none
  iC : findIn K (.ref C) "__init__" = some (some (.ref fI))
  tC : typeIn K (.ref fI) = some (.type "function")
  kC : keepIn K (.ref C) = true
  exC : subIn K (.ref C) (.type "BaseException") = some true
  veC : subIn K (.ref C) (.type "ValueError") = some true
  mC : mroIn K C (.ref C) = some true
  isC : (clsIn K C).isSome = true
  tyC : typeIn K (.ref C) = some (.type "type")
  hdC : hasDictIn K C = true
  any : nsIn K cStatics "thirdparty.any" = some none
  sg : nsIn K mainGlobals "super" = some none
  htop : (prog.main.scope.names.lookup ("super" : Str)).isSome = false
  fn : ∃ (oc : Value) (od : Option Addr) (doc pm : Value) (an : Option Addr) (cda cc : Addr) (ct : Value) (osl : Array (Option Value)) (p1 p2 a1 a2 a3 a4 a5 a6 q1 q2 q3 q4 : Pos) (ccl cl : Value) (cdd cld : Option Addr) (ccs csl : Array (Option Value)) (vs : Array Value) (file : Str) (tf : Tok),
    K.lookup fI = some ⟨oc, od, .func (ksFn "__init__" "Refused.__init__" (iA p1 p2) (iB a1 a2 a3 a4 a5 a6 q1 q2 q3 q4) rS .none .none doc pm an (.ref cda) ct cc), osl⟩ ∧ codeIn K (.ref cda) "Refused.__init__" = true ∧
      K.lookup cda = some ⟨ccl, cdd, .fields vs, ccs⟩ ∧ vs[2]? = some (.str file tf) ∧ ((prog.main.file : Str) == file) = true ∧ K.lookup cc = some ⟨cl, cld, .cell (some (.ref C)), csl⟩ ∧
      ∀ env : Env, ∃ pl, eval (.Call (.Attribute (.Call (.Name "super" a1) [] [] a2) "__init__" a3) [.Name "reason" a4] [] a5) env = (do
        let ov ← attributeBase (.Call (.Name "super" a1) [] [] a2) "__init__" env (eval (.Call (.Name "super" a1) [] [] a2) env)
        standAt a3.atName
        let (f, first) ← holding [ov] (getMethod ov "__init__" pl)
        callWith a5 f first (backTo a5 (starEach [.Name "reason" a4] env)) [])
section
variable {prog : Program} {w : World} {A : Around} {E : Value → Shared → Prop} {R : Result → Shared → Prop} {s : Shared} {K : Frag} {C fI : Addr} 
/-- what __init__ leaves of a fresh exception at x -/
structure InitEnd (h h' : Heap) (x C dx t1 : Addr) (v : Value) : Prop where
  keep : ∀ b o, b ≠ x → h.get? b = some o → h'.get? b = some o
  obj : h'.get? x = some { cls := .ref C, dict := some dx, data := .fields #[.ref t1, .none, .none, .none, .bool false, .none] }
  dbig : h.objs.size ≤ dx
  dne : dx ≠ x
  ns : h'.Ns1 dx (fun y => if y = "reason" then some v else none)
theorem call_mw {h : Heap} {g : Array GenState} {d : Drawn} {t : Nat} {os : OsState} {nm q : Str} {N : Addr} {bs bm bmB : List Value} {hdct : Bool} {sn : List Str} {sub : List Value} {ab : Bool} {col : Option Bool} {dd : Option Addr} {k0 k1 k2 k3 k5 : Option Value} {u e t0 : Addr} {rest : List Value} {Q : Value → Shared → Prop}
    (FB : ExcBaseFacts "ValueError" "ValueError.__new__" "ValueError.__init__" bmB) (hC : h.get? C = some (excClassObj nm q C N bs bm hdct sn sub ab col dd k0 k1 k2 k3 k5 "ValueError.__new__")) (he : h.get? e = some (excO C t0)) (hu : h.get? u = some (kxs_mw "ValueError.__init__" e)) (hz : rest.length ≤ sizeLine)
    (hq : ∀ h' t1, (∀ b o, b ≠ e → h.get? b = some o → h'.get? b = some o) → h'.get? e = some (excO C t1) → Q .none ⟨h', g, d, t, os⟩) :
    wpAny (model prog w) A (call (.ref u) rest) Q E ⟨h, g, d, t, os⟩ := by
  refine wpAny_call (codeAny_of_tree ?_)
  show wpAny _ A.in1 (callAny (.ref u) ⟨rest, []⟩) _ _ _
  simp only [callAny]
  refine wpAny_bind (wpAny_load hu ?_)
  simp only [kxs_mw, show (Value.type "method-wrapper" == Value.type "method" || Value.type "method-wrapper" == Value.type "builtin_function_or_method" || Value.type "method-wrapper" == Value.type "method-wrapper") = true by decide, if_true]
  refine KFB.if_so (by decide) ?_
  refine wpAny_bind (check_bound_init FB.toExcCallFacts hC he rfl ?_)
  refine wpAny_bind (wpAny_pure (wpAny_pure ?_))
  refine ⟨plainId_quiet FB.init.plain _, codeAny_builtin FB.initEntry ?_⟩
  exact exc_init_tree (cls := .ref C) (t0 := t0) (dv := none) (c2 := .none) (c3 := .none) (b4 := .bool false) he hz fun h' k e' _ => hq h' _ k e'
theorem ref_init (T : RefTxt prog K C fI) {mg mb : Str → Option Value} {x t0 : Addr} {v : Value} (X : K.In s.heap) (G : s.heap.Ns mainGlobals mg) (B : s.heap.Ns builtinsNs mb) (hb : ∀ x : Str, x ≠ "__name__" → mb x = bootBuiltins x)
    (hlim : s.heap.NoLimit) (hx : s.heap.get? x = some (excO C t0)) (hnx : K.lookup x = none) (hroom : A.depth < recursionLimit)
    (hq : ∀ h' tk dx t1, InitEnd s.heap h' x C dx t1 v → R (.ok (.ret .none)) { s with heap := h', toks := tk }) :
    codeAny (model prog w) A (.call (.ref fI) ⟨[.ref x, v], []⟩) R s := by
  obtain ⟨oc, od, doc, pm, an, cda, cc, ct, osl, p1, p2, a1, a2, a3, a4, a5, a6, q1, q2, q3, q4, ccl, cl, cdd, cld, ccs, csl, vs, file, tf, ho, hcd, hcda, hvs, hfile, hcell, hev⟩ := T.fn
  obtain ⟨nm, q, N, bs, bm, sn, sub, ab, col, dd, k0, k1, k2, k3, k5, hC, hbm⟩ := T.cls
  have hcl : clsIn K C = some { name := nm, bases := bs, mro := .ref C :: bm, ns := N, qualname := q, hasDict := true, slotNames := sn, subclasses := sub, abstract := ab, collection := col, hasDel := false } := by unfold clsIn; rw [hC] <;> rfl
  refine ks_codeAny_call_defAt (fd := ksFn "__init__" "Refused.__init__" (iA p1 p2) (iB a1 a2 a3 a4 a5 a6 q1 q2 q3 q4) rS .none .none doc pm an (.ref cda) ct cc) (body := iB a1 a2 a3 a4 a5 a6 q1 q2 q3 q4) (binds := [("self", .ref x), ("reason", v)]) hroom (X _ _ ho) rfl hlim (codeRec_of X hcd) rfl
    (BindsTo.of_eq (by first | rfl | with_unfolding_all rfl)) (show ∀ x ∈ rS.names, x.2 ≠ .cell by decide) (fun y hy => ?_) (fun h₁ hns k => ?_) rfl rfl rfl
  · rcases List.mem_cons.mp hy with rfl | hy
    · rfl
    rcases List.mem_cons.mp hy with rfl | hy
    · rfl
    · cases hy
  have X₁ : K.In h₁ := X.keeps k
  have hx₁ := k _ _ hx
  have G₁ := G.keeps k
  have B₁ := B.keeps k
  -- super().__init__(p)
  obtain ⟨pl, hpl⟩ := hev (callEnv (ksFn "__init__" "Refused.__init__" (iA p1 p2) (iB a1 a2 a3 a4 a5 a6 q1 q2 q3 q4) rS .none .none doc pm an (.ref cda) ct cc) s.heap.objs.size fI)
  refine ks_wpAt_execs_cons (ks_wpAt_Expr_any (ks_wpAt_MethodCall ?_ hpl) (by rfl) (by rfl))
  have hC₁ : h₁.get? C = _ := X₁ _ _ hC
  refine ks_wpAt_super_base (oc := ⟨ccl, cdd, .fields vs, ccs⟩) rfl rfl rfl rfl (X₁ _ _ ho) rfl rfl rfl (X₁ _ _ hcda) rfl hvs hfile T.htop ?_
  refine ks_loadName_global rfl rfl (loadGlobal_builtin G₁ (mg_none_of X G T.sg) B₁ ((hb _ (by decide +kernel)).trans (by kernel_rfl)) ⟨rfl, ?_⟩)
  refine wpAny_loadName_free rfl rfl rfl ⟨_, X₁ _ _ hcell, rfl⟩ ?_
  refine wpAny_loadName_local rfl rfl hns (v := .ref x) (by first | rfl | with_unfolding_all rfl | kernel_rfl) ?_
  refine ks_wpAny_isType_cls hC₁ rfl ⟨rfl, ?_⟩
  refine ks_wpAny_call_super hC₁ rfl hx₁ rfl (fun c e => by cases e) (looks_mroIn X₁ T.mC) (fun h₂ e₂ k₂ => ?_)
  have X₂ : K.In h₂ := X₁.keeps k₂
  have hx₂ := k₂ _ _ hx₁
  have hC₂ := k₂ _ _ hC₁
  have hn₂ := hns.keeps k₂
  have I₂ : W.InstAt h₂ x (excO C t0) C none := ⟨hx₂, rfl, rfl, trivial⟩
  have hxC : x ≠ C := fun z => by rw [z, show K.lookup C = _ from hC] at hnx; cases hnx
  refine kxs_getMethod kxs_ValueError e₂ (looks_opaque X₂ T.any) (l₀ := .ref C :: bm) (l := bm) ((W.looks_clsIn X₂ hcl).andThen .now) ?_ X₂ ?_ (I₂.type.andThen (looks_subIn X₂ T.veC)) hxC rfl ?_
  · simp [List.dropWhile_cons]
  · have z := T.sup
    unfold ks_superIn at z
    rw [hcl] at z
    simpa [List.dropWhile_cons] using z
  have FB := F.excBase_ValueError
  have k₃ : ∀ b o, h₂.get? b = some o → (h₂.push (kxs_mw "ValueError.__init__" x)).get? b = some o := fun b o e => Heap.get?_push_of_some _ e
  refine kxs_callWith (i := "ValueError.__init__") (x := x) (by rfl) (evalArgs_plain ?_)
  have hn₃ := hn₂.keeps k₃
  show wpAny _ _ (spliced ((false, eval (.Name "reason" a4) _) :: [])) _ _ _
  refine spliced_cons (wpAny_Name (wpAny_loadName_local rfl rfl hn₃ (v := v) (by first | rfl | with_unfolding_all rfl | kernel_rfl) ?_) (by decide))
  refine spliced_nil ⟨Heap.get?_push_at rfl rfl, ?_⟩
  refine call_mw (u := h₂.objs.size) (t0 := t0) FB (k₃ _ _ hC₂) (k₃ _ _ hx₂) (Heap.get?_push_at rfl rfl) (by rw [sizeLine_eq]; exact (by decide : 1 ≤ 16777216)) fun h₄ t1 k₄ hx₄ => ?_
  have X₄ : K.In h₄ := fun a o e => k₄ a o (fun z => by rw [z, hnx] at e; cases e) (k₃ _ _ (X₂ _ _ e))
  have hxL : s.heap.objs.size ≠ x := Nat.ne_of_gt (Heap.lt_size hx)
  have hn₄ := Heap.Ns.at hn₃ (h' := h₄) fun o e => k₄ _ o hxL e
  -- self.reason = reason
  refine wpAt_of_wpAny (wpAny_execs_cons (plainObj_wpAny_Assign_Attribute ?_))
  refine wpAny_Name (wpAny_loadName_local rfl rfl hn₄ (v := v) (by first | rfl | with_unfolding_all rfl | kernel_rfl) ?_) (by decide)
  refine wpAny_Name (wpAny_loadName_local rfl rfl hn₄ (v := .ref x) (by first | rfl | with_unfolding_all rfl | kernel_rfl) ?_) (by decide)
  refine set_plain X₄ (ox := excO C t1) (od := none) ⟨hx₄, rfl, rfl, trivial⟩ T.sa ?_
  refine exc_osa X₄ hx₄ hcl (show refsVE (.ref C :: bm) = true from hbm) rfl T.noN (fun h₅ tk₅ dx k₅ dn dne hx₅ hn₅ => ?_)
  show wpAny _ _ (execs _ _) _ _ _
  have z : s.heap.objs.size < h₄.objs.size := hn₄.lt
  exact wpAny_execs_nil (hq h₅ tk₅ dx t1 ⟨fun b o hb e => k₅ b o hb (k₄ b o hb (k₃ _ _ (k₂ _ _ (k b o e)))), hx₅, Nat.le_of_lt (Nat.lt_of_lt_of_le z dn), dne, hn₅⟩)
/-- a made one -/
structure OwnMade (h h' : Heap) (e C d : Addr) (v : Value) : Prop where
  keep : ∀ b o, h.get? b = some o → h'.get? b = some o
  new : h.objs.size ≤ e
  obj : ∃ oe vs, h'.get? e = some oe ∧ oe.cls = .ref C ∧ oe.dict = some d ∧ oe.data = .fields vs ∧ vs[1]? = some .none
  dbig : h.objs.size ≤ d
  dne : d ≠ e
  ns : h'.Ns1 d (fun y => if y = "reason" then some v else none)
theorem one_size (v : Value) : [v].length ≤ sizeLine := by
  rw [sizeLine_eq]
  exact (by decide : 1 ≤ 16777216)
theorem ref_made (T : RefTxt prog K C fI) {mg mb : Str → Option Value} {v : Value} (X : K.In s.heap) (G : s.heap.Ns mainGlobals mg) (B : s.heap.Ns builtinsNs mb) (hb : ∀ x : Str, x ≠ "__name__" → mb x = bootBuiltins x) (hlim : s.heap.NoLimit) (hroom : A.depth + 1 < recursionLimit)
    (hq : ∀ h' tk e d, OwnMade s.heap h' e C d v → R (.ok (.ret (.ref e))) { s with heap := h', toks := tk }) :
    codeAny (model prog w) A (.call (.ref C) ⟨[v], []⟩) R s := by
  obtain ⟨nm, q, N, bs, bm, sn, sub, ab, col, dd, k0, k1, k2, k3, k5, hC, hbm⟩ := T.cls
  obtain ⟨hp, g, dr, tk, os⟩ := s
  have k : ∀ b o, hp.get? b = some o → ((hp.push (kdv_tup [v])).push (excO C hp.objs.size)).get? b = some o := fun b o e => Heap.get?_push_of_some _ (Heap.get?_push_of_some _ e)
  have hget : ((hp.push (kdv_tup [v])).push (excO C hp.objs.size)).get? (hp.objs.size + 1) = some (excO C hp.objs.size) := by heap_get
  have hnx : K.lookup (hp.objs.size + 1) = none := by
    cases e : K.lookup (hp.objs.size + 1) with
    | none => rfl
    | some o =>
      have z : hp.get? (hp.objs.size + 1) = some o := X _ _ e
      exact absurd (Nat.lt_of_succ_lt (Heap.lt_size z)) (Nat.lt_irrefl _)
  refine call_own F.excBase_ValueError (fun X => refsVE_contains X bm hbm) (X _ _ hC) (looks_findIn X T.iC) (fun self => bind_fn X self T.tC) (one_size v) ?_
  refine ref_init (s := ⟨(hp.push (kdv_tup [v])).push (excO C hp.objs.size), g, dr, tk, os⟩) T (X.keeps k) (G.keeps k) (B.keeps k) hb (hlim.keeps k) hget hnx ?_ fun h' tk' dx t1 ⟨k', hx, dn, dne, hns⟩ => ?_
  · show A.depth + 1 < recursionLimit
    exact hroom
  · have old : ∀ b o, hp.get? b = some o → h'.get? b = some o := fun b o e => k' b o (Nat.ne_of_lt (Nat.lt_succ_of_lt (Heap.lt_size e))) (k b o e)
    have z : hp.objs.size + 1 + 1 ≤ dx := by
      first
        | (simpa only [Heap.size_push] using dn)
        | exact dn
        | (have q := dn; rw [Heap.size_push, Heap.size_push] at q; exact q)
    exact ⟨rfl, hq h' tk' (hp.objs.size + 1) dx ⟨old, Nat.le_succ _, ⟨_, _, hx, rfl, rfl, rfl, rfl⟩, Nat.le_trans (Nat.le_trans (Nat.le_succ _) (Nat.le_succ _)) z, dne, hns⟩⟩
end
end RefX
end PySem
namespace L2
open PySem PySem.Spec PyProof.Rows
theorem relO_ref {v : V} {v' : Value} (r : RelV v v') (f : Str) : RelO (List.lookup f [(("reason" : Str), v)]) (if f = "reason" then some v' else none) := by
  by_cases hw : f = "reason"
  · subst hw
    rw [if_pos rfl]
    have q : List.lookup ("reason" : Str) [(("reason" : Str), v)] = some v := by simp [List.lookup]
    rw [q]
    exact r
  · rw [if_neg hw]
    have qw : (f == ("reason" : Str)) = false := by simpa using hw
    have q2 : List.lookup f [(("reason" : Str), v)] = none := by simp [List.lookup, qw]
    rw [q2]
    trivial
section
variable {X : Cx} {C fI : Addr}
/-- C(e) -/
def tMkRef (C : Addr) (ta : TA) : St → Hp → XK → Prop := fun σ H Q => ta σ H fun vs H1 => ∃ v, vs = [v] ∧ ∀ d, H1 d = none → Q (.ref C) (some d) (upd H1 d (.xd [(("reason" : Str), v)]))
theorem pmk_ref {x : Str} {a : Expr} {ta : TA} {p pos : Pos} {k : Nat} (T : PySem.RefX.RefTxt X.prog X.K C fI) (hm : X.mg x = some (.ref C)) (hr : Room k X.A) (ha : PA X [a] ta) (hg : Gl X x) (hdb : (x == ("__debug__" : Str)) = false)
    (he : starEach (a :: []) X.env = (false, eval a X.env) :: starEach [] X.env := by rfl) (hpl : (backTo pos (starEach [] X.env)).any (·.1) = false := by rfl) :
    PMk X (.Call (.Name x p) [a] [] pos) (tMkRef C ta) := by
  intro pins s σ H Q I h
  refine wpAny_Call_Name_kw (ld_glob I hg hm ?_ hdb)
  refine PySem.W.callWith_K (h₀ := X.base) I.ok.mod.kin T.kC (thn (ha.run pos pins s σ H _ I h) fun us s1 hh => ?_) he hpl
  obtain ⟨vs, H1, I1, r1, v, ev, q1⟩ := hh
  subst ev
  refine ⟨I1.kIn, ?_⟩
  cases r1 with
  | cons rv rn =>
    rename_i v' us'
    cases rn
    show wpAny _ _ (call (.ref C) [v']) _ _ _
    have hlim := I1.nolimit
    have hG := I1.mod.glob.keeps I1.bk
    obtain ⟨mb, hB, hb⟩ := I1.mod.blt
    have hB := hB.keeps I1.bk
    obtain ⟨hp, g, dr, tk, os⟩ := s1
    refine wpAny_call (PySem.RefX.ref_made T I1.kIn hG hB hb hlim (by have := hr.dp; omega) fun h' tk' e d M => ?_)
    show MkP X pins σ Q (.ref e) ⟨h', g, dr, tk', os⟩
    obtain ⟨oe, fv, hoe, hc, hd, hdat, h1⟩ := M.obj
    have hns := M.ns
    obtain ⟨G', g1, g2⟩ := restrict h' fun b => decide (b ≠ e)
    have gk : ∀ b, b ≠ e → G'.get? b = h'.get? b := fun b hb => g1 b (decide_eq_true hb)
    have ge : G'.get? e = none := g2 e (by simp)
    have old : ∀ b o, hp.get? b = some o → G'.get? b = some o := fun b o q => (gk b (Nat.ne_of_lt (Nat.lt_of_lt_of_le (Heap.lt_size q) M.new))).trans (M.keep b o q)
    have ob : ObjOk X.prog X.w (upd H1 d (.xd [(("reason" : Str), v)])) G' d (.xd [(("reason" : Str), v)]) :=
      ⟨_, hns.at (fun o q => (gk d M.dne).trans q), fun f => relO_ref rv f⟩
    have J : Inv X pins σ (upd H1 d (.xd [(("reason" : Str), v)])) ⟨G', g, dr, tk', os⟩ := I1.laid (t' := tk') old M.dbig ob
    refine ⟨e, oe, fv, ⟨G', g, dr, tk', os⟩, _, .ref C, some d, rfl, J, fun b o q => ?_, ge, hoe, ⟨hc, hd⟩, hdat, h1, ?_, rfl, I1.bare, raises_own T.exC T.tyC, q1 d (I1.hok.fresh M.dbig)⟩
    · by_cases hb : b = e
      · have q' : G'.get? b = some o := q
        rw [hb, ge] at q'; cases q'
      · exact (gk b hb).symm.trans q
    · rw [upd_ne (Ne.symm M.dne)]
      exact I1.hok.fresh M.new
/-- n.reason, n the exception that the suite holds (at a; its class cls, its dict d) -/
def tByRef (C : Addr) (a : Addr) (cls : Value) (d : Option Addr) (te : TE) : TE := fun σ H Q => te σ H fun x H1 => x = .ref a ∧ cls = .ref C ∧ ∃ (dd : Addr) (v : V), d = some dd ∧ H1 dd = some (.xd [(("reason" : Str), v)]) ∧ Q v H1
theorem pe_byRef {prog : Program} {a : Addr} {oe : Obj} {cls : Value} {d : Option Addr} {pn : List (Addr × Obj)} {e : Expr} {te : TE} {pos : Pos} (T : PySem.RefX.RefTxt prog X.K C fI) (hz : Zc cls d oe) (hf : ∃ vs, oe.data = .fields vs) (he : PE (X.suite a ((a, oe) :: pn)) e te)
    (hb : attributeBase e "reason" X.env (eval e X.env) = eval e X.env := by rfl) :
    PE (X.suite a ((a, oe) :: pn)) (.Attribute e "reason" pos) (tByRef C a cls d te) := by
  refine ⟨fun pins s σ H Q I h => ?_⟩
  refine attr_of hb (thn (he.run pins s σ H _ I h) fun u s1 hh => ?_)
  obtain ⟨x, H1, I1, rx, ex, ec, dd, v, ed, ea, q⟩ := hh
  subst ex
  obtain rfl : u = Value.ref a := rx
  subst ec
  subst ed
  obtain ⟨ha, _⟩ := I1.pin (a, oe) (List.mem_append_left _ List.mem_cons_self)
  obtain ⟨vs, hd⟩ := hf
  have hx : ObjOk X.prog X.w H1 s1.heap dd (.xd [(("reason" : Str), v)]) := I1.hok dd _ ea
  obtain ⟨mA, hns, hr⟩ := hx
  obtain ⟨od, ho, hl⟩ := lookIn_ns hns
  have l : List.lookup ("reason" : Str) [(("reason" : Str), v)] = some v := by simp [List.lookup]
  obtain ⟨u, hu, ru⟩ := RelO.some_of (v := v) (o := mA "reason") (by rw [← l]; exact hr "reason")
  have J : PySem.W.InstAt s1.heap a oe C (some od) := ⟨ha, hz.1, by unfold PySem.W.notCls; rw [hd] <;> rfl, by rw [hz.2]; exact ho⟩
  exact HandSPX.exc_get I1.kIn J T.ga T.gg T.exC (PySem.W.findObj_own T.hdC T.noN rfl (by rw [hl, hu])) (handed_of ru) ⟨v, H1, I1.tok _, ru, q⟩
end
end L2

set_option Elab.async false
set_option linter.all false
set_option maxRecDepth 100000
set_option maxHeartbeats 2000000
namespace L2
open PySem PySem.Spec PyProof.Rows
/-- the ends of a suite whose error stands in slot i (none: nowhere) -/
def dMix (i : Option Nat) (D : Ends) : Ends := match i with
  | none => D
  | some i => { nx := fun σ' H' => D.nx (σ'.set i none) H', rt := D.rt, bk := fun σ' H' => D.bk (σ'.set i none) H', ct := fun σ' H' => D.ct (σ'.set i none) H' }
def sMix (i : Option Nat) (a : Addr) (σ : St) : St := match i with
  | none => σ
  | some i => σ.set i (some (.ref a))
abbrev Cl := Value × Option Nat × (Addr → Value → Option Addr → TS)
def wMix (K : PySem.W.Frag) (Wout : WX) (D : Ends) : List Cl → WX
  | [] => Wout
  | (c, i, ts) :: r => fun cls d σ H => ∃ b, PySem.W.exmOne K cls c = some b ∧ (b = true → ∀ a, H a = none → ts a cls d (dMix i D) (sMix i a σ) H) ∧ (b = false → wMix K Wout D r cls d σ H)
inductive HdMix (X : Cx) : List ExceptHandler → List Cl → Prop
  | nil : HdMix X [] []
  | cons {x : Str} {on : Option Str} {c : Value} {i : Option Nat} {ts : Addr → Value → Option Addr → TS} {b₀ : Stmt} {suite : List Stmt} {np pos' : Pos} {hds : List ExceptHandler} {l : List Cl} (hc : Names X x c)
      (hon : match on, i with | none, none => True | some n, some i => X.N[i]? = some n ∧ X.env.kindOf n = some .local | _, _ => False)
      (hsu : ∀ (a : Addr) (oe : Obj) (cls : Value) (d : Option Addr) (pn : List (Addr × Obj)), Zc cls d oe → (∃ vs, oe.data = .fields vs) → PSs (X.suite a ((a, oe) :: pn)) (b₀ :: suite) (ts a cls d)) (r : HdMix X hds l) :
      HdMix X (.ExceptHandler (some (.Name x np)) on (b₀ :: suite) pos' :: hds) ((c, i, ts) :: l)
section
variable {X : Cx} {body : List Stmt} {h₀ : ExceptHandler} {hds : List ExceptHandler} {l : List Cl} {pos : Pos} {tb : WX → TS} {Wout : WX}
theorem ps_try_mix (hs : X.stack = X.env :: X.outer) (hf : X.env.frame = some X.env.locals) (hN : X.N.Nodup) (tk : Takes X Wout)
    (hb : ∀ (W : WX) (pn : List (Addr × Obj)) (xe : Value → Shared → Prop), Takes (X.tr pn xe) W → PassesOwn (model X.prog X.w) X.A X.env xe → PSs (X.tr pn xe) body (tb W))
    (hh : HdMix X (h₀ :: hds) l) : PS X (.Try body (h₀ :: hds) [] [] pos) (fun D σ H => tb (wMix X.K Wout D l) D σ H) := by
  refine ⟨fun pins s σ H D I h => ?_⟩
  have ok := I.ok
  have hfr : X.A.frames = some (X.env :: X.outer) := by rw [ok.frames, hs]
  refine wpAny_Try_except ?_
  refine wpAny_mono ((hb (wMix X.K Wout D l) (X.pn ++ pins) (fun e s₁ => wpAny (model X.prog X.w) X.A (noteFrame e X.env) (fun _ s₂ => wpAny (model X.prog X.w) X.A (setFlight e none) (fun _ s₃ =>
    wpAny (model X.prog X.w) X.A (handleBy e X.env (h₀ :: hds)) (SP X pins D) X.xe s₃) X.xe s₂) X.xe s₁) (fun u s' xx => ?_) PassesOwn.looking).run [] s σ H D (I.toTry _) h) (fun f s1 hsp => ?_) (fun e s1 he => he)
  · obtain ⟨a, B, sI, pins', σ', H', cls, d, rfl, J', nb, up, sky, na, os, ag, w⟩ := xx
    have J : Inv X pins σ' H' sI := J'.ofTry ok
    have sky' : Sky B (X.env :: X.outer) a (Zc cls d) X.env.locals s'.heap := by rw [← hs]; exact sky
    show wpAny (model X.prog X.w) X.A (noteFrame (.ref a) X.env) _ _ _
    refine Sky.land Zc.steady hfr hf sky' fun h3 fl3 up3 => ?_
    have J3 : Inv X pins σ' H' { s' with heap := h3 } := J.landed nb fl3.1 (up.trans up3) os ag
    obtain ⟨oe3, vs3, he3, hz3, hd3⟩ := fl3.there
    have notFr : ∀ {h : Heap} {o : Obj} {vs : Array Value}, h.FunFrames B (X.env :: X.outer) → h.get? a = some o → o.data = .fields vs → a ∉ frs (X.env :: X.outer) := fun {h o vs} ff e dd hm => by
      obtain ⟨_, o', e', hnf⟩ := ff.mem hm
      rw [e] at e'; cases e'
      exact hnf _ dd
    have nfr := notFr fl3.2.2.1 he3 hd3
    have nL : a ≠ X.env.locals := fun z => nfr (List.mem_filterMap.mpr ⟨X.env, List.mem_cons_self, by rw [hf, z]⟩)
    have nF : a ∉ X.fs := fun hm => by
      obtain ⟨e, he, q⟩ := List.mem_filterMap.mp hm
      exact nfr (List.mem_filterMap.mpr ⟨e, List.mem_cons_of_mem _ he, q⟩)
    have S3 := J3.suite he3 hd3 na nL nF
    have go : ∀ {hds' : List ExceptHandler} {l' : List Cl}, HdMix X hds' l' → wMix X.K Wout D l' cls d σ' H' →
        wpAny (model X.prog X.w) X.A (handleBy (.ref a) X.env hds') (SP X pins D) X.xe { s' with heap := h3 } := by
      intro hds' l' hk
      induction hk with
      | nil =>
        intro w
        refine wpAny_handleBy_nil ?_
        obtain ⟨k1, k2, k3, oe, vs, T, oT, ts', he, hz, hd, h1, hr⟩ := id fl3
        unfold PySem.passOn
        refine wpAny_bind (wpAny_field he hd h1 ?_)
        rw [if_neg (show ¬ ((Value.ref T == Value.none) = true) from by simp)]
        have fin : wpAny (model X.prog X.w) X.A (setFlight (.ref a) X.env.frame) (fun _ s4 => wpAny (model X.prog X.w) X.A (throw (.ref a) : Sem Flow) (SP X pins D) X.xe s4) X.xe { s' with heap := h3 } := by
          rw [hf]
          refine HandSPX.setFlight_upZ fl3 fun h4 hh4 up4 => wpAny_throw (tk _ _ ?_)
          exact ⟨a, B, sI, pins, σ', H', cls, d, rfl, J, nb, (up.trans up3).trans up4, .inr (.inr (by rw [hs]; exact hh4)), na, os, ag, w⟩
        first
          | exact wpAny_bind (wpAny_pure (wpAny_bind fin))
          | exact wpAny_bind fin
      | @cons x on c i ts b₀ suite np pos' hds2 l2 hc hon hsu r ih =>
        intro w
        obtain ⟨b, hb1, hyes, hno⟩ := w
        have LT : PySem.W.Looks (model X.prog X.w) h3 (typeOf (.ref a)) cls := fun A Q E s k q => wpAny_typeOf_ref (k _ _ he3) (by rw [hz3.1]; exact q)
        have LM := PySem.W.exm_one (M := model X.prog X.w) (J3.kIn) LT hb1
        have test : ∀ {Q : Value → Shared → Prop} {E : Value → Shared → Prop}, Q c { s' with heap := h3 } → wpAny (model X.prog X.w) (X.A.mark (some (.ref a))) (eval (.Name x np) X.env) Q E { s' with heap := h3 } := fun {Q E} q => by
          obtain ⟨hg, hdbg, hm | ⟨hm, hv, hnn⟩⟩ := hc
          · exact ld_glob (X := X.suite a ((a, oe3) :: (X.pn ++ pins))) S3 hg hm q hdbg
          · exact ld_blt (X := X.suite a ((a, oe3) :: (X.pn ++ pins))) S3 hg hm hv q hnn hdbg
        refine wpAny_handleBy_cons (codeAny_handlers_test ?_) (by intro q; cases q)
        refine test (LM.here ?_)
        cases b with
        | false =>
          show wpAny _ X.A (handleBy (.ref a) X.env hds2) _ _ _
          exact ih (hno rfl)
        | true =>
          cases on with
          | none =>
            cases i with
            | some i => exact hon.elim
            | none =>
              refine codeAny_handlers_suite ?_
              refine HandSPX.lands_againZ fl3 fun h4 fl4 up4 => ?_
              have J4 : Inv X pins σ' H' { s' with heap := h4 } := J.landed nb fl4.1 ((up.trans up3).trans up4) os ag
              obtain ⟨oe4, vs4, he4, hz4, hd4⟩ := fl4.there
              have S4 := J4.suite he4 hd4 na nL nF
              refine wpAny_mono ((hsu a oe4 cls d (X.pn ++ pins) hz4 ⟨_, hd4⟩).run [] _ _ H' _ S4 (hyes rfl a na)) (fun f s6 hsp => ?_) (fun _ _ z => False.elim z)
              cases f with
              | ret u =>
                obtain ⟨v6, σ6, H6, S6, r6, q6⟩ := hsp
                exact ⟨_, _, _, S6.unsuite ok, r6, q6⟩
              | _ =>
                obtain ⟨σ6, H6, S6, q6⟩ := hsp
                exact ⟨_, _, S6.unsuite ok, q6⟩
          | some n =>
            cases i with
            | none => exact hon.elim
            | some i =>
              obtain ⟨hi, hln⟩ := hon
              have hloc : Loc X.env.scope n := .inl hln
              refine codeAny_handlers_suite_as ?_
              refine HandSPX.lands_againZ fl3 fun h4 fl4 up4 => ?_
              have J4 : Inv X pins σ' H' { s' with heap := h4 } := J.landed nb fl4.1 ((up.trans up3).trans up4) os ag
              obtain ⟨oe4, vs4, he4, hz4, hd4⟩ := fl4.there
              have S4 := J4.suite he4 hd4 na nL nF
              refine store_ok (X := X.suite a ((a, oe4) :: (X.pn ++ pins))) (v := .ref a) S4 hN hi hloc rfl (fun s5 S5 => ?_) (.inr hln)
              refine wpAny_mono ((hsu a oe4 cls d (X.pn ++ pins) hz4 ⟨_, hd4⟩).run [] s5 _ H' _ S5 (hyes rfl a na)) (fun f s6 hsp => ?_) (fun _ _ z => False.elim z)
              have end_ : ∀ {σ6 : St} {H6 : Hp} {Q : Shared → Prop}, Inv (X.suite a ((a, oe4) :: (X.pn ++ pins))) [] σ6 H6 s6 → (∀ s7, Inv X pins (σ6.set i none) H6 s7 → Q s7) →
                  wpAny (model X.prog X.w) X.A (do bindName X.env n .none; unbindBehindTheSuite X.env n pos') (fun _ s7 => Q s7) X.xe s6 := fun {σ6 H6 Q} S6 hq => gone_ok (S6.unsuite ok) hN hi hln hq
              cases f with
              | ret u =>
                obtain ⟨v6, σ6, H6, S6, r6, q6⟩ := hsp
                exact end_ S6 fun s7 J7 => ⟨_, _, _, J7, r6, q6⟩
              | _ =>
                obtain ⟨σ6, H6, S6, q6⟩ := hsp
                exact end_ S6 fun s7 J7 => ⟨_, _, J7, q6⟩
    exact go hh w
  · cases f with
    | next =>
      obtain ⟨σ', H', J', q⟩ := hsp
      exact wpAny_execs_nil ⟨σ', H', J'.ofTry ok, q⟩
    | ret u =>
      obtain ⟨v, σ', H', J', r, q⟩ := hsp
      exact ⟨v, σ', H', J'.ofTry ok, r, q⟩
    | _ =>
      obtain ⟨σ', H', J', q⟩ := hsp
      exact ⟨σ', H', J'.ofTry ok, q⟩
end
end L2

set_option Elab.async false
set_option linter.all false
set_option maxRecDepth 100000
set_option maxHeartbeats 4000000
/-! isinstance(e, C), e a caught error that may have a dict of its own -/
namespace PySem.W
open PySem PySem.Spec PySem.Calls PyProof.Rows
section
variable {prog : Program} {w : World} {A : Around} {E : Value → Shared → Prop} {s : Shared} {K : Frag} {x D : Addr} {ox : Obj} {od : Option Obj}
theorem px_found {C : Addr} {name : Str} {a g : Value} (hc : (clsIn K C).isSome = true) (ha : findIn K (.ref C) name = some (some a)) (hg : specialIn K a "__get__" = some (some g)) (ht : takesIn K a = some true) : findObj K C od name = some (.bind g a) := by
  obtain ⟨cd, hc⟩ := Option.isSome_iff_exists.mp hc
  unfold findObj
  rw [hc, Option.bind_some, ha, Option.bind_some]
  simp [hg, ht]
theorem px_class {Q : Option Value → Shared → Prop} (C : L2.ExcC K D) (X : K.In s.heap) (I : InstAt s.heap x ox D od) (h : Q (some (.ref D)) { s with toks := s.toks + 1 }) : wpAny (model prog w) A (getAttr? (.ref x) "__class__") Q E s := by
  have hf : findObj K D od "__class__" = some (.bind (.builtin "getset_descriptor.__get__") (.builtin "object.__class__")) := px_found (by obtain ⟨cd, hc, _⟩ := any_some C.hd; rw [hc]; rfl) C.ha C.hn C.ht
  obtain ⟨hp, g, d, t, os⟩ := s
  have L0 := I.type (M := model prog w)
  have L1 := looks_findIn (M := model prog w) X C.hg
  have L2 := looks_findIn (M := model prog w) X C.hk
  have L3 := looks_find (M := model prog w) X I hf
  have sub : Looks (model prog w) hp (isInstance (.ref x) (.type "BaseException")) true := L0.andThen (looks_subIn X C.hs)
  have hx2 : (Value.builtin "BaseException.__getattribute__" == Value.builtin "object.__getattribute__") = false := by decide +kernel
  have hx1 : (onTheHeap (Value.ref D) && Value.builtin "BaseException.__getattribute__" == Value.builtin "object.__getattribute__") = false := by rw [hx2]; rfl
  unfold getAttr? getAttrBy? getAttrBy
  refine wpAny_bind (wpAny_mkText (wpAny_bind (wpAny_attempt (wpAny_holding (wpAny_bind (L0.at (wpAny_bind (L1.at ?_))))))))
  show wpAny _ _ (if (onTheHeap (Value.ref D) && Value.builtin "BaseException.__getattribute__" == Value.builtin "object.__getattribute__") = true then _ else _) _ _ _
  rw [hx1, if_neg Bool.false_ne_true]
  unfold getAttrByItsOwn hookBefore
  refine wpAny_bind ?_
  rw [if_pos (show onTheHeap (Value.ref D) = true from rfl)]
  refine L2.at ?_
  refine wpAny_bind (wpAny_attempt (wpAny_holding ?_))
  unfold callGetattribute
  rw [if_neg (show ¬ ((false && onTheHeap (Value.builtin "BaseException.__getattribute__")) = true) from Bool.false_ne_true)]
  unfold boundAndCalled
  rw [PySem.F.excAttr_ValueError.ga.bind (.ref x)]
  refine wpAny_bind (wpAny_pure ?_)
  show wpAny _ _ (call (.builtin "BaseException.__getattribute__") [.ref x, .str "__class__" t]) _ _ _
  refine wpAny_call (codeAny_call_builtin PySem.F.excAttr_ValueError.ga.plain PySem.F.entry_bexc_ga ?_)
  refine @check_slot (model prog w) _ _ ⟨hp, g, d, t + 1, os⟩ "BaseException.__getattribute__" "BaseException" "__getattribute__" (.ref x) [.str "__class__" t] [] _ (by decide +kernel) (by decide +kernel) sub (PySem.F.args_bexc_ga (.ref x) (.str "__class__" t)) ?_
  unfold Builtin.«object.__getattribute__»
  refine wpAny_bind (wpAny_of_eq (a := ((Value.ref x : Value), [Value.str "__class__" t])) (by first | rfl | (simp only [slotArgs]; rfl)) ?_)
  refine wpAny_bind (wpAny_pure (wpAny_bind (L0.at (wpAny_bind (L3.at ?_)))))
  show wpAny _ _ (holding [Value.builtin "object.__class__"] (call (.builtin "getset_descriptor.__get__") [.builtin "object.__class__", .ref x, .ref D]) >>= ret) _ _ _
  refine wpAny_bind (wpAny_holding (wpAny_call (class_get (s := ⟨hp, g, d, t + 1, os⟩) (ox := ox) (od := od) X I C.hm ?_)))
  refine wpAny_pure ?_
  show wpAny _ _ (handedOut (.ref D)) _ _ _
  rw [handedOut_of (v := .ref D) rfl]
  first
    | exact wpAny_pure (wpAny_pure h)
    | exact wpAny_pure h
    | exact wpAny_pure (wpAny_bind (wpAny_pure (wpAny_pure h)))
theorem px_kit (C : L2.ExcC K D) : KitX K (.ref x) (.ref D) (fun h => InstAt h x ox D od) where
  ty := fun _ _ _ I => I.type
  it := fun _ _ X _ => by
    obtain ⟨cdD, hcD, _⟩ := any_some C.hd
    unfold clsIn at hcD
    split at hcD
    · rename_i c' d' cd' sl' ho
      intro A' Q' E' s' k q
      unfold isType loadHead
      exact wpAny_bind (wpAny_loadPart (k _ _ (X _ _ ho)) (wpAny_pure q))
    · cases hcD
  ne := fun h tp dd its n sl X htp => by
    obtain ⟨cdD, hcD, _⟩ := any_some C.hd
    refine Bool.eq_false_iff.mpr fun q => ?_
    have e : D = tp := Value.ref.inj (beq_iff_eq.mp q)
    subst e
    unfold clsIn at hcD
    split at hcD
    · rename_i c' d' cd' sl' ho
      have z := (X _ _ ho).symm.trans htp
      cases z
    · cases hcD
  ca := fun X I k => px_class C X I k
end
end PySem.W
namespace L2
open PySem PySem.Spec PyProof.Rows
/-- what the heap says of an error's dict -/
def DOk (H : Hp) (d : Option Addr) : Prop := d = none ∨ ∃ dd fs, d = some dd ∧ H dd = some (.xd fs)
def rIsX (K : PySem.W.Frag) (D a : Addr) (d : Option Addr) : List V → Hp → VK → Prop := fun xs H Q => ∃ (c : V) (cv : Value) (b : Bool), xs = [.ref a, c] ∧ (∀ u, RelV c u → u = cv) ∧ PySem.W.kitOne K (.ref D) cv = some b ∧ DOk H d ∧ Q (.bl b) H
theorem call_isX {X : Cx} {a D : Addr} {d : Option Addr} {oe : Obj} {pn : List (Addr × Obj)} (C : ExcC X.K D) (hz : Zc (.ref D) d oe) (hf : ∃ vs, oe.data = .fields vs) : CallR (X.suite a ((a, oe) :: pn)) (.builtin "isinstance") (rIsX X.K D a d) := by
  intro pins s σ H xs us Q I r h
  obtain ⟨c, cv, b, rfl, hcv, e, dk, q⟩ := h
  cases r with
  | cons rx rr =>
    cases rr with
    | cons rt rr =>
      cases rr
      cases rx
      have ec := hcv _ rt
      subst ec
      obtain ⟨hget, _⟩ := I.pin (a, oe) (List.mem_append.mpr (.inl List.mem_cons_self))
      obtain ⟨vs, hv⟩ := hf
      have J : ∃ od, PySem.W.InstAt s.heap a oe D od := by
        obtain ⟨oc, od, oda, osl⟩ := oe
        obtain ⟨h1, h2⟩ := hz
        dsimp only at h1 h2 hv
        subst h1 h2 hv
        rcases dk with rfl | ⟨dd, fs, rfl, hd⟩
        · exact ⟨none, hget, rfl, rfl, trivial⟩
        · have hx : ObjOk X.prog X.w H s.heap dd (.xd fs) := I.hok dd _ hd
          obtain ⟨mA, hns, _⟩ := hx
          obtain ⟨o, _, _, ho, _⟩ := hns
          exact ⟨some o, hget, rfl, rfl, ho⟩
      obtain ⟨od, J⟩ := J
      exact PySem.W.kia_one (PySem.W.px_kit C) I.kIn J e (fun z => nomatch z) fun tk => ⟨.bl b, H, I.kept (t' := tk) fun _ _ z => z, rfl, q⟩
end L2

set_option Elab.async false
set_option linter.all false
set_option maxRecDepth 100000
set_option maxHeartbeats 4000000
/-! a tuple once over -/
namespace Py
open PySem PySem.Spec PyProof.Rows L2
theorem tup_once (l : Addr) (items : Array Value) (n : Nat) (u : Tok) (hne : items.isEmpty = false) :
    Meets (Builtin.«tuple.__mul__» ⟨[.ref l, .int 1 u], []⟩) (fun _ R s => (∃ dd sl, s.heap.get? l = some { cls := .type "tuple", dict := dd, data := .seq items n, slots := sl }) ∧ R (.ok (.ret (.ref l))) s) := by
  refine .of_wp fun prog w A R s h => ?_
  obtain ⟨hp, g, d, tk, os⟩ := s
  obtain ⟨⟨dd, sl, hl⟩, h⟩ := h
  have f1 := AutoSeq1.idx_int
  wp_walk using wpAny_loadPart' hl
  exact ⟨_, rfl, h⟩
def rOnce (K : PySem.W.Frag) : R2 := fun x y H Q => ∃ l xs, x = .ref l ∧ y = .int 1 ∧ SqT K H l xs ∧ xs ≠ [] ∧ Q (.ref l) H
theorem op_once {X : Cx} : OpR X (binaryOp .Mult) (rOnce X.K) := by
  intro pins s σ H x y v u Q I rx ry h
  obtain ⟨l, xs, rfl, rfl, hT, hne, q⟩ := h
  cases rx
  obtain ⟨t, rfl⟩ := ry
  obtain ⟨its, r, ⟨⟨cls, dd, data, sl⟩, ho, hc, n, hd⟩, hs⟩ := I.tuple hT
  simp only at hc hd
  subst hc hd
  have hi : its.toArray.isEmpty = false := by
    cases its with
    | nil =>
      have hle := r.length
      exact absurd (List.eq_nil_of_length_eq_zero hle) hne
    | cons a b => rfl
  have ht : s.TypeIs (.ref l) "tuple" := ⟨_, ho, rfl⟩
  have back := call_meets (prog := X.prog) (w := X.w) (A := X.A) (E := X.xe) F.slot_tuple_mul ht F.entry_tuple_mul (F.args_tuple_mul_2 _ _) (tup_once l its.toArray n t hi)
    (Q := EP X pins σ Q) ⟨⟨dd, sl, ho⟩, .ref l, H, I, rfl, q⟩
  have rev := call_meets (prog := X.prog) (w := X.w) (A := X.A) (E := X.xe) (s := s) F.slot_int_rmul (typeIs_int s 1 t) F.entry_int_rmul (F.args_int_rmul_2 _ _) (int_rmul_tuple 1 t l its.toArray n dd sl)
    (Q := fun v s' => v = Value.notImplemented ∧ s'.TypeIs (.ref l) "tuple" ∧ wpAny (model X.prog X.w) X.A (call (.builtin "tuple.__mul__") [.ref l, .int 1 t]) (EP X pins σ Q) X.xe s') ⟨ho, rfl, ht, back⟩
  exact wpAny_binaryOp_repeat_ref (by decide) ht (fun s' => typeIs_int s' 1 t) noFill_tuple_mul F.fills_int_mul F.slot_int_rmul repeat_tuple F.slot_int_index.lookup rev
end Py

set_option Elab.async false
set_option linter.all false
set_option maxRecDepth 100000
set_option maxHeartbeats 1000000
namespace Py
open PySem PySem.Spec PyProof.Rows L2

/-! ### wishes about runs -/
def Wp {α : Type} (m : M α) (s : DS) (Q : α → DS → Prop) (E : Exc → DS → Prop) : Prop := match m s with
  | .ok a s' => Q a s'
  | .exc x s' => E x s'
  | .fail => False
theorem Wp.bind_iff {α β : Type} {m : M α} {k : α → M β} {s : DS} {Q : β → DS → Prop} {E : Exc → DS → Prop} :
    Wp (m >>= k) s Q E ↔ Wp m s (fun a s' => Wp (k a) s' Q E) E := by
  show Wp (M.bind m k) s Q E ↔ _
  unfold Wp M.bind
  cases m s <;> exact Iff.rfl
theorem Wp.of_bind {α β : Type} {m : M α} {k : α → M β} {s : DS} {Q : β → DS → Prop} {E : Exc → DS → Prop} (h : Wp (m >>= k) s Q E) : Wp m s (fun a s' => Wp (k a) s' Q E) E := Wp.bind_iff.mp h
theorem Wp.mono {α : Type} {m : M α} {s : DS} {Q Q' : α → DS → Prop} {E E' : Exc → DS → Prop} (h : Wp m s Q E) (hq : ∀ a s', Q a s' → Q' a s') (he : ∀ x s', E x s' → E' x s') : Wp m s Q' E' := by
  unfold Wp at h ⊢
  cases e : m s with
  | ok a s' => rw [e] at h; exact hq _ _ h
  | exc x s' => rw [e] at h; exact he _ _ h
  | fail => rw [e] at h; exact h
theorem Wp.of_pure {α : Type} {a : α} {s : DS} {Q : α → DS → Prop} {E : Exc → DS → Prop} (h : Wp (pure a : M α) s Q E) : Q a s := h
theorem Wp.of_fail {α : Type} {s : DS} {Q : α → DS → Prop} {E : Exc → DS → Prop} (h : Wp (fail : M α) s Q E) : False := h
theorem Wp.of_ite {α : Type} {c : Prop} [Decidable c] {m n : M α} {s : DS} {Q : α → DS → Prop} {E : Exc → DS → Prop} (h : Wp (if c then m else n) s Q E) : (c ∧ Wp m s Q E) ∨ (¬ c ∧ Wp n s Q E) := by
  by_cases hc : c
  · rw [if_pos hc] at h; exact .inl ⟨hc, h⟩
  · rw [if_neg hc] at h; exact .inr ⟨hc, h⟩
/-- it is there, or it fails -/
theorem Wp.of_guard {α : Type} {c : Prop} [Decidable c] {m : M α} {s : DS} {Q : α → DS → Prop} {E : Exc → DS → Prop} (h : Wp (if c then m else fail) s Q E) : c ∧ Wp m s Q E := by
  rcases Wp.of_ite h with h | ⟨_, h⟩
  · exact h
  · exact h.of_fail.elim

/-! ### data in the heap -/
structure Wd where
  P : Program
  w : World
  K : PySem.W.Frag
  mg : Str → Option Value
  base : Heap
  cap : Addr
  cell : Addr
abbrev Ow := Addr → Option Nat
section
variable (U : Wd)
def Nd (ow : Ow) (H : Hp) (a : Addr) (o : HO) : Prop := H a = some o ∧ ow a = none ∧ a ≠ U.cap
def KT (a : Addr) (xs : List V) : Prop := ∃ (o : Obj) (its : Array Value) (n : Nat), U.K.lookup a = some o ∧ o.cls = .type "tuple" ∧ o.data = .seq its n ∧ its.size ≤ sizeLine ∧ Vals xs its.toList
/-- a written dict of the top, its keys texts -/
def KDs (a : Addr) (xs : List (Key × V)) : Prop := (∃ es n, KDict U.K U.w a es n) ∧ (∀ z : Str, ∃ r, PySem.W.nsIn U.K a z = some r ∧ RelO (valV xs (.inr z)) r) ∧ ∀ p ∈ xs, ∃ z : Str, p.1 = .inr z
mutual
/-- v is the datum d; what may change is not within -/
def Rp (ow : Ow) (H : Hp) : D → V → Prop
  | .none, v => v = .non
  | .bool b, v => v = .bl b
  | .int i, v => v = .int i
  | .str x, v => v = .str x
  | .list ds, v => ∃ a xs, v = .ref a ∧ Nd U ow H a (.lst xs) ∧ RpL ow H ds xs
  | .tuple ds, v => ∃ a xs, v = .ref a ∧ (Nd U ow H a (.tup xs) ∨ KT U a xs) ∧ RpL ow H ds xs
  | .dict kvs, v => (kvs = [(.none, .none)] ∧ v = .ref U.cap) ∨ ∃ a xs, v = .ref a ∧ (Nd U ow H a (.dK xs) ∨ KDs U a xs) ∧ RpD ow H kvs xs
def RpD (ow : Ow) (H : Hp) : List (D × D) → List (Key × V) → Prop
  | [], xs => xs = []
  | p :: r, xs => ∃ kk x ys, xs = (kk, x) :: ys ∧ keyD p.1 = some kk ∧ Rp ow H p.2 x ∧ RpD ow H r ys
def RpL (ow : Ow) (H : Hp) : List D → List V → Prop
  | [], xs => xs = []
  | d :: ds, xs => ∃ x ys, xs = x :: ys ∧ Rp ow H d x ∧ RpL ow H ds ys
end
/-- all but the drawing row stands as before -/
def Ext (H H' : Hp) : Prop := ∀ a u, a ≠ U.cap → H a = some u → H' a = some u
/-- what is shared stands as before -/
def Keep (ow ow' : Ow) (H H' : Hp) : Prop := ∀ a u, a ≠ U.cap → ow a = none → H a = some u → H' a = some u ∧ ow' a = none
structure Cap (H : Hp) (s : DS) : Prop where
  row : H U.cap = some (.lst [.ref U.cell, .int s.at_, .int s.cur, .int s.seed])
  cells : H U.cell = some (.lst (s.cells.map V.int))
  ne : U.cell ≠ U.cap
/-- what stands at the address of a list, of a dict -/
def Sh (ow : Ow) (H : Hp) (d : D) (u : HO) : Prop := (∃ ds xs, d = .list ds ∧ u = .lst xs ∧ RpL U ow H ds xs) ∨ ∃ kvs xs, d = .dict kvs ∧ u = .dK xs ∧ RpD U ow H kvs xs
/-- a list, a dict that a place owns -/
def Own (i : Nat) (ow : Ow) (H : Hp) (d : D) (v : V) : Prop := ∃ a u, v = .ref a ∧ H a = some u ∧ ow a = some i ∧ a ≠ U.cap ∧ Sh U ow H d u
/-- may be read as d -/
def Pk (ow : Ow) (H : Hp) (d : D) (v : V) : Prop := Rp U ow H d v ∨ ∃ i, Own U i ow H d v
/-- a list made anew: at H' it is there, at H it was not -/
def RF (ow : Ow) (H H' : Hp) (d : D) (v : V) : Prop := ∃ a u, v = .ref a ∧ H a = none ∧ H' a = some u ∧ a ≠ U.cap ∧ ∀ i, Sh U (fun b => if b = a then some i else ow b) H' d u
end
section
variable {U : Wd} {ow ow' : Ow} {H H' H'' : Hp}
theorem Ext.refl : Ext U H H := fun _ _ _ h => h
theorem Ext.trans (a : Ext U H H') (b : Ext U H' H'') : Ext U H H'' := fun x u h e => b x u h (a x u h e)
theorem Ext.new {p : Addr} {o : HO} (h : H p = none) : Ext U H (upd H p o) := fun a u _ e => by rw [upd_ne (ne_of_none e h)]; exact e
theorem Ext.keep (h : Ext U H H') : Keep U ow ow H H' := fun a u hc ho e => ⟨h a u hc e, ho⟩
theorem Nd.mono {a : Addr} {o : HO} (h : Nd U ow H a o) (k : Keep U ow ow' H H') : Nd U ow' H' a o := by
  obtain ⟨r, ho, hc⟩ := h
  obtain ⟨e, ho'⟩ := k a _ hc ho r
  exact ⟨e, ho', hc⟩
mutual
theorem Rp.mono (k : Keep U ow ow' H H') : ∀ (d : D) (v : V), Rp U ow H d v → Rp U ow' H' d v
  | .none, _, h => by unfold Rp at h ⊢; exact h
  | .bool _, _, h => by unfold Rp at h ⊢; exact h
  | .int _, _, h => by unfold Rp at h ⊢; exact h
  | .str _, _, h => by unfold Rp at h ⊢; exact h
  | .list ds, _, h => by
    unfold Rp at h ⊢
    obtain ⟨a, xs, e, n, r⟩ := h
    exact ⟨a, xs, e, n.mono k, RpL.mono k ds xs r⟩
  | .tuple ds, _, h => by
    unfold Rp at h ⊢
    obtain ⟨a, xs, e, n, r⟩ := h
    exact ⟨a, xs, e, n.imp (fun n => n.mono k) id, RpL.mono k ds xs r⟩
  | .dict kvs, _, h => by
    unfold Rp at h ⊢
    rcases h with h | ⟨a, xs, e, n, r⟩
    · exact .inl h
    · exact .inr ⟨a, xs, e, n.imp (fun n => n.mono k) id, RpD.mono k kvs xs r⟩
theorem RpD.mono (k : Keep U ow ow' H H') : ∀ (ds : List (D × D)) (xs : List (Key × V)), RpD U ow H ds xs → RpD U ow' H' ds xs
  | [], _, h => by unfold RpD at h ⊢; exact h
  | p :: ds, _, h => by
    unfold RpD at h ⊢
    obtain ⟨kk, x, ys, e, hk, r, rs⟩ := h
    exact ⟨kk, x, ys, e, hk, Rp.mono k p.2 x r, RpD.mono k ds ys rs⟩
theorem RpL.mono (k : Keep U ow ow' H H') : ∀ (ds : List D) (xs : List V), RpL U ow H ds xs → RpL U ow' H' ds xs
  | [], _, h => by unfold RpL at h ⊢; exact h
  | d :: ds, _, h => by
    unfold RpL at h ⊢
    obtain ⟨x, ys, e, r, rs⟩ := h
    exact ⟨x, ys, e, Rp.mono k d x r, RpL.mono k ds ys rs⟩
end
theorem Rp.ext {d : D} {v : V} (h : Rp U ow H d v) (e : Ext U H H') : Rp U ow H' d v := Rp.mono e.keep d v h
theorem RpL.ext {ds : List D} {xs : List V} (h : RpL U ow H ds xs) (e : Ext U H H') : RpL U ow H' ds xs := RpL.mono e.keep ds xs h
theorem Sh.mono {d : D} {u : HO} (k : Keep U ow ow' H H') (h : Sh U ow H d u) : Sh U ow' H' d u := by
  rcases h with ⟨ds, xs, e1, e2, r⟩ | ⟨ds, xs, e1, e2, r⟩
  · exact .inl ⟨ds, xs, e1, e2, RpL.mono k ds xs r⟩
  · exact .inr ⟨ds, xs, e1, e2, RpD.mono k ds xs r⟩
theorem Sh.ext {d : D} {u : HO} (h : Sh U ow H d u) (e : Ext U H H') : Sh U ow H' d u := Sh.mono e.keep h
theorem Sh.notTup {d : D} {u : HO} (h : Sh U ow H d u) : ∀ xs, u ≠ .tup xs := by
  rcases h with ⟨ds, xs, e1, e2, r⟩ | ⟨ds, xs, e1, e2, r⟩ <;> subst e2 <;> exact fun _ z => nomatch z
theorem Sh.list {ds : List D} {u : HO} (h : Sh U ow H (.list ds) u) : ∃ xs, u = .lst xs ∧ RpL U ow H ds xs := by
  rcases h with ⟨ds, xs, e1, e2, r⟩ | ⟨ds, xs, e1, e2, r⟩
  · cases e1; exact ⟨xs, e2, r⟩
  · cases e1
theorem Sh.dict {ds : List (D × D)} {u : HO} (h : Sh U ow H (.dict ds) u) : ∃ xs, u = .dK xs ∧ RpD U ow H ds xs := by
  rcases h with ⟨ds, xs, e1, e2, r⟩ | ⟨ds, xs, e1, e2, r⟩
  · cases e1
  · cases e1; exact ⟨xs, e2, r⟩
theorem Own.ext {i : Nat} {d : D} {v : V} (h : Own U i ow H d v) (e : Ext U H H') : Own U i ow H' d v := by
  obtain ⟨a, u, e2, h1, h2, h3, r⟩ := h
  exact ⟨a, u, e2, e a _ h3 h1, h2, h3, r.ext e⟩
/-- no owner: neither list nor dict -/
def soft : D → Bool
  | .list _ => true
  | .dict _ => true
  | _ => false
theorem Own.soft {i : Nat} {d : D} {v : V} (h : Own U i ow H d v) : soft d = true := by
  obtain ⟨a, u, e2, h1, h2, h3, r⟩ := h
  rcases r with ⟨ds, xs, e1, e2, r⟩ | ⟨ds, xs, e1, e2, r⟩ <;> subst e1 <;> rfl
theorem Pk.ext {d : D} {v : V} (h : Pk U ow H d v) (e : Ext U H H') : Pk U ow H' d v := h.imp (fun h => h.ext e) fun ⟨i, h⟩ => ⟨i, h.ext e⟩
theorem RpL.length : ∀ {ds : List D} {xs : List V}, RpL U ow H ds xs → ds.length = xs.length
  | [], _, h => by unfold RpL at h; rw [h]; rfl
  | d :: ds, _, h => by
    unfold RpL at h
    obtain ⟨x, ys, e, r, rs⟩ := h
    rw [e, List.length_cons, List.length_cons, RpL.length rs]
theorem RpL.get : ∀ {ds : List D} {xs : List V} {i : Nat} {d : D}, RpL U ow H ds xs → ds[i]? = some d → ∃ x, xs[i]? = some x ∧ Rp U ow H d x
  | [], _, i, d, _, e => by simp at e
  | d' :: ds, _, 0, d, h, e => by
    unfold RpL at h
    obtain ⟨x, ys, e', r, rs⟩ := h
    subst e'
    simp at e; subst e
    exact ⟨x, rfl, r⟩
  | d' :: ds, _, i + 1, d, h, e => by
    unfold RpL at h
    obtain ⟨x, ys, e', r, rs⟩ := h
    subst e'
    simp at e
    obtain ⟨y, h1, h2⟩ := RpL.get rs e
    exact ⟨y, by simpa using h1, h2⟩
theorem RpL.nil : RpL U ow H [] [] := by unfold RpL; rfl
theorem RpL.cons {d : D} {ds : List D} {x : V} {xs : List V} (h : Rp U ow H d x) (r : RpL U ow H ds xs) : RpL U ow H (d :: ds) (x :: xs) := by unfold RpL; exact ⟨x, xs, rfl, h, r⟩
theorem RpL.of_cons {d : D} {ds : List D} {x : V} {xs : List V} (h : RpL U ow H (d :: ds) (x :: xs)) : Rp U ow H d x ∧ RpL U ow H ds xs := by
  unfold RpL at h
  obtain ⟨y, ys, e, r, rs⟩ := h
  cases e
  exact ⟨r, rs⟩
theorem RpL.append : ∀ {ds es : List D} {xs ys : List V}, RpL U ow H ds xs → RpL U ow H es ys → RpL U ow H (ds ++ es) (xs ++ ys)
  | [], es, xs, ys, h, r => by unfold RpL at h; subst h; exact r
  | d :: ds, es, xs, ys, h, r => by
    unfold RpL at h
    obtain ⟨x, zs, e, h1, h2⟩ := h
    subst e
    exact RpL.cons h1 (RpL.append h2 r)
theorem RpL.take : ∀ {ds : List D} {xs : List V} (n : Nat), RpL U ow H ds xs → RpL U ow H (ds.take n) (xs.take n)
  | _, _, 0, _ => RpL.nil
  | [], _, n + 1, h => by unfold RpL at h; subst h; exact RpL.nil
  | d :: ds, _, n + 1, h => by
    unfold RpL at h
    obtain ⟨x, zs, e, h1, h2⟩ := h
    subst e
    exact RpL.cons h1 (RpL.take n h2)
theorem RpL.drop : ∀ {ds : List D} {xs : List V} (n : Nat), RpL U ow H ds xs → RpL U ow H (ds.drop n) (xs.drop n)
  | _, _, 0, h => h
  | [], _, n + 1, h => by unfold RpL at h; subst h; exact RpL.nil
  | d :: ds, _, n + 1, h => by
    unfold RpL at h
    obtain ⟨x, zs, e, h1, h2⟩ := h
    subst e
    exact RpL.drop n h2
theorem RpL.set : ∀ {ds : List D} {xs : List V} {d : D} {x : V} (n : Nat), RpL U ow H ds xs → Rp U ow H d x → RpL U ow H (ds.set n d) (xs.set n x)
  | [], _, d, x, n, h, _ => by unfold RpL at h; subst h; exact RpL.nil
  | _ :: ds, _, d, x, 0, h, r => by
    unfold RpL at h
    obtain ⟨y, zs, e, h1, h2⟩ := h
    subst e
    exact RpL.cons r h2
  | _ :: ds, _, d, x, n + 1, h, r => by
    unfold RpL at h
    obtain ⟨y, zs, e, h1, h2⟩ := h
    subst e
    exact RpL.cons h1 (RpL.set n h2 r)
theorem RpL.eraseIdx : ∀ {ds : List D} {xs : List V} (n : Nat), RpL U ow H ds xs → RpL U ow H (ds.eraseIdx n) (xs.eraseIdx n)
  | [], _, n, h => by unfold RpL at h; subst h; exact RpL.nil
  | _ :: ds, _, 0, h => by
    unfold RpL at h
    obtain ⟨y, zs, e, h1, h2⟩ := h
    subst e
    exact h2
  | _ :: ds, _, n + 1, h => by
    unfold RpL at h
    obtain ⟨y, zs, e, h1, h2⟩ := h
    subst e
    exact RpL.cons h1 (RpL.eraseIdx n h2)
theorem RpL.dropLast {ds : List D} {xs : List V} (h : RpL U ow H ds xs) : RpL U ow H ds.dropLast xs.dropLast := by
  rw [List.dropLast_eq_take, List.dropLast_eq_take, h.length]
  exact h.take _
theorem RpL.rep {ds : List D} {xs : List V} (h : RpL U ow H ds xs) : ∀ n : Nat, RpL U ow H (List.replicate n ds).flatten (List.replicate n xs).flatten
  | 0 => RpL.nil
  | n + 1 => by
    rw [List.replicate_succ, List.replicate_succ, List.flatten_cons, List.flatten_cons]
    exact h.append (RpL.rep h n)
theorem KT.seq {a : Addr} {xs : List V} (h : KT U a xs) : SqT U.K H a xs := .inr h
/-! pairs -/
theorem RpD.ext {ds : List (D × D)} {xs : List (Key × V)} (h : RpD U ow H ds xs) (e : Ext U H H') : RpD U ow H' ds xs := RpD.mono e.keep ds xs h
theorem RpD.length : ∀ {ds : List (D × D)} {xs : List (Key × V)}, RpD U ow H ds xs → ds.length = xs.length
  | [], _, h => by unfold RpD at h; rw [h]; rfl
  | p :: ds, _, h => by
    unfold RpD at h
    obtain ⟨kk, x, ys, e, _, r, rs⟩ := h
    rw [e, List.length_cons, List.length_cons, RpD.length rs]
theorem RpD.hit : ∀ {ds : List (D × D)} {xs : List (Key × V)} {k : Key} {d : D}, RpD U ow H ds xs → dAt k ds = some d → ∃ x, valV xs k = some x ∧ Rp U ow H d x
  | [], _, _, _, _, e => by cases e
  | p :: ds, _, k, d, h, e => by
    unfold RpD at h
    obtain ⟨kk, x, ys, e', hk, r, rs⟩ := h
    subst e'
    unfold dAt at e
    rw [hk] at e
    by_cases hkk : kk = k
    · rw [if_pos (by rw [hkk])] at e
      cases e
      exact ⟨x, valV_pos hkk, r⟩
    · rw [if_neg (fun z => hkk (Option.some.inj z))] at e
      obtain ⟨y, h1, h2⟩ := RpD.hit rs e
      exact ⟨y, by rw [valV_neg hkk]; exact h1, h2⟩
theorem RpD.miss : ∀ {ds : List (D × D)} {xs : List (Key × V)} {k : Key}, RpD U ow H ds xs → dAt k ds = none → valV xs k = none
  | [], _, _, h, _ => by unfold RpD at h; subst h; rfl
  | p :: ds, _, k, h, e => by
    unfold RpD at h
    obtain ⟨kk, x, ys, e', hk, r, rs⟩ := h
    subst e'
    unfold dAt at e
    rw [hk] at e
    by_cases hkk : kk = k
    · rw [if_pos (by rw [hkk])] at e
      cases e
    · rw [if_neg (fun z => hkk (Option.some.inj z))] at e
      rw [valV_neg hkk]; exact RpD.miss rs e
theorem RpD.isSome {ds : List (D × D)} {xs : List (Key × V)} (k : Key) (h : RpD U ow H ds xs) : (dAt k ds).isSome = (valV xs k).isSome := by
  cases e : dAt k ds with
  | none => rw [h.miss e]; rfl
  | some d => obtain ⟨x, h1, _⟩ := h.hit e; rw [h1]; rfl
theorem RpD.ok : ∀ {ds : List (D × D)} {xs : List (Key × V)}, RpD U ow H ds xs → dOk ds = true
  | [], _, _ => rfl
  | p :: ds, _, h => by
    unfold RpD at h
    obtain ⟨kk, x, ys, e', hk, r, rs⟩ := h
    have := RpD.ok rs
    unfold dOk at this ⊢
    rw [List.all_cons, hk, this]
    rfl
theorem RpD.nil : RpD U ow H [] [] := by unfold RpD; rfl
theorem RpD.cons {p : D × D} {ds : List (D × D)} {kk : Key} {x : V} {xs : List (Key × V)} (hk : keyD p.1 = some kk) (h : Rp U ow H p.2 x) (r : RpD U ow H ds xs) : RpD U ow H (p :: ds) ((kk, x) :: xs) := by unfold RpD; exact ⟨kk, x, xs, rfl, hk, h, r⟩
theorem RpD.append : ∀ {ds es : List (D × D)} {xs ys : List (Key × V)}, RpD U ow H ds xs → RpD U ow H es ys → RpD U ow H (ds ++ es) (xs ++ ys)
  | [], es, xs, ys, h, r => by unfold RpD at h; subst h; exact r
  | d :: ds, es, xs, ys, h, r => by
    unfold RpD at h
    obtain ⟨kk, x, zs, e, hk, h1, h2⟩ := h
    subst e
    exact RpD.cons hk h1 (RpD.append h2 r)
theorem RpD.any : ∀ {ds : List (D × D)} {xs : List (Key × V)} {k : D} {kk : Key}, RpD U ow H ds xs → keyD k = some kk → (ds.any fun p => decide (keyD p.1 = keyD k)) = xs.any fun q => decide (q.1 = kk)
  | [], _, _, _, h, _ => by unfold RpD at h; subst h; rfl
  | p :: ds, _, k, kk, h, e => by
    unfold RpD at h
    obtain ⟨k1, x, ys, e', hk, r, rs⟩ := h
    subst e'
    rw [List.any_cons, List.any_cons, RpD.any rs e, hk, e]
    congr 1
    exact decide_eq_decide.mpr ⟨fun z => Option.some.inj z, fun z => congrArg _ z⟩
theorem RpD.repl : ∀ {ds : List (D × D)} {xs : List (Key × V)} {k d : D} {kk : Key} {v : V}, RpD U ow H ds xs → keyD k = some kk → Rp U ow H d v →
    RpD U ow H (ds.map fun p => if keyD p.1 = keyD k then (p.1, d) else p) (xs.map fun q => if q.1 = kk then (q.1, v) else q)
  | [], _, _, _, _, _, h, _, _ => by unfold RpD at h; subst h; exact RpD.nil
  | p :: ds, _, k, d, kk, v, h, e, rv => by
    unfold RpD at h
    obtain ⟨k1, x, ys, e', hk, r, rs⟩ := h
    subst e'
    rw [List.map_cons, List.map_cons]
    by_cases hkk : k1 = kk
    · rw [if_pos (by rw [hk, e, hkk]), if_pos hkk]
      exact RpD.cons hk rv (RpD.repl rs e rv)
    · rw [if_neg (by rw [hk, e]; exact fun z => hkk (Option.some.inj z)), if_neg hkk]
      exact RpD.cons hk r (RpD.repl rs e rv)
theorem RpD.put {ds : List (D × D)} {xs : List (Key × V)} {k d : D} {kk : Key} {v : V} (h : RpD U ow H ds xs) (e : keyD k = some kk) (rv : Rp U ow H d v) : RpD U ow H (dPut ds k d) (putK xs kk v) := by
  unfold dPut putK
  rw [h.any e]
  split
  · exact h.repl e rv
  · exact h.append (RpD.cons (p := (k, d)) e rv RpD.nil)
/-- what is to be read of a dict -/
theorem Pk.dict {kvs : List (D × D)} {v : V} (h : Pk U ow H (.dict kvs) v) (hn : dOk kvs = true) : ∃ a xs, v = .ref a ∧ (H a = some (.dK xs) ∨ KDs U a xs) ∧ RpD U ow H kvs xs := by
  rcases h with h | ⟨i, a, u, e2, h1, h2, h3, r⟩
  · unfold Rp at h
    rcases h with ⟨e, _⟩ | ⟨a, xs, e, n, r⟩
    · subst e; cases hn
    · exact ⟨a, xs, e, n.imp (fun n => n.1) id, r⟩
  · obtain ⟨xs, eu, r2⟩ := r.dict
    subst eu
    exact ⟨a, xs, e2, .inl h1, r2⟩
/-- what is to be read of a list -/
theorem Pk.list {ds : List D} {v : V} (h : Pk U ow H (.list ds) v) : ∃ a xs, v = .ref a ∧ H a = some (.lst xs) ∧ RpL U ow H ds xs := by
  rcases h with h | ⟨i, a, u, e2, h1, h2, h3, r⟩
  · unfold Rp at h
    obtain ⟨a, xs, e, n, r⟩ := h
    exact ⟨a, xs, e, n.1, r⟩
  · obtain ⟨xs, eu, r2⟩ := r.list
    subst eu
    exact ⟨a, xs, e2, h1, r2⟩
theorem Pk.tuple {ds : List D} {v : V} (h : Pk U ow H (.tuple ds) v) : ∃ a xs, v = .ref a ∧ SqT U.K H a xs ∧ RpL U ow H ds xs := by
  rcases h with h | ⟨i, h⟩
  · unfold Rp at h
    obtain ⟨a, xs, e, n, r⟩ := h
    exact ⟨a, xs, e, n.elim (fun n => .inl (.inl n.1)) (fun n => .inr n), r⟩
  · cases h.soft
theorem Pk.int {i : Int} {v : V} (h : Pk U ow H (.int i) v) : v = .int i := by
  rcases h with h | ⟨_, h⟩
  · unfold Rp at h; exact h
  · cases h.soft
theorem Pk.bool {i : Bool} {v : V} (h : Pk U ow H (.bool i) v) : v = .bl i := by
  rcases h with h | ⟨_, h⟩
  · unfold Rp at h; exact h
  · cases h.soft
theorem Pk.str {i : Str} {v : V} (h : Pk U ow H (.str i) v) : v = .str i := by
  rcases h with h | ⟨_, h⟩
  · unfold Rp at h; exact h
  · cases h.soft
theorem Pk.none {v : V} (h : Pk U ow H .none v) : v = .non := by
  rcases h with h | ⟨_, h⟩
  · unfold Rp at h; exact h
  · cases h.soft
theorem Rp.none : Rp U ow H .none .non := by unfold Rp; rfl
theorem Rp.bool {b : Bool} : Rp U ow H (.bool b) (.bl b) := by unfold Rp; rfl
theorem Rp.int {b : Int} : Rp U ow H (.int b) (.int b) := by unfold Rp; rfl
theorem Rp.str {b : Str} : Rp U ow H (.str b) (.str b) := by unfold Rp; rfl
/-- a new list, a new tuple -/
theorem Rp.newL {ds : List D} {xs : List V} {p : Addr} (h : RpL U ow H ds xs) (np : H p = Option.none) (hc : p ≠ U.cap) (ho : ow p = Option.none) : Rp U ow (upd H p (.lst xs)) (.list ds) (.ref p) := by
  unfold Rp
  exact ⟨p, xs, rfl, ⟨upd_same, ho, hc⟩, h.ext (Ext.new np)⟩
theorem Rp.newT {ds : List D} {xs : List V} {p : Addr} (h : RpL U ow H ds xs) (np : H p = Option.none) (hc : p ≠ U.cap) (ho : ow p = Option.none) : Rp U ow (upd H p (.tup xs)) (.tuple ds) (.ref p) := by
  unfold Rp
  exact ⟨p, xs, rfl, .inl ⟨upd_same, ho, hc⟩, h.ext (Ext.new np)⟩
/-- the new address may be owned -/
theorem RpL.own {ds : List D} {xs : List V} {p : Addr} (h : RpL U ow H ds xs) (np : H p = none) (i : Nat) {o : HO} : RpL U (fun b => if b = p then some i else ow b) (upd H p o) ds xs :=
  RpL.mono (fun a u _ ho e => by
    have hne := ne_of_none e np
    exact ⟨by rw [upd_ne hne]; exact e, by show (if a = p then some i else ow a) = _; rw [if_neg hne]; exact ho⟩) ds xs h
theorem RpD.own {ds : List (D × D)} {xs : List (Key × V)} {p : Addr} (h : RpD U ow H ds xs) (np : H p = none) (i : Nat) {o : HO} : RpD U (fun b => if b = p then some i else ow b) (upd H p o) ds xs :=
  RpD.mono (fun a u _ ho e => by
    have hne := ne_of_none e np
    exact ⟨by rw [upd_ne hne]; exact e, by show (if a = p then some i else ow a) = _; rw [if_neg hne]; exact ho⟩) ds xs h
theorem RF.new {ds : List D} {xs : List V} {p : Addr} {H0 : Hp} (h : RpL U ow H ds xs) (h0 : H0 p = none) (np : H p = none) (hc : p ≠ U.cap) : RF U ow H0 (upd H p (.lst xs)) (.list ds) (.ref p) :=
  ⟨p, _, rfl, h0, upd_same, hc, fun i => .inl ⟨ds, xs, rfl, rfl, h.own np i⟩⟩
theorem Ext.none {H H' : Hp} {p : Addr} (h : Ext U H H') (hc : p ≠ U.cap) (np : H' p = none) : H p = none := by
  cases e : H p with
  | none => rfl
  | some u => rw [h p u hc e] at np; cases np
mutual
theorem Rp.dp : ∀ (d : D) (v : V), PyData.canLay0 d = true → Rp U ow H d v → Dp U.K H v d
  | .none, _, _, h => by unfold Rp at h; subst h; exact .non
  | .bool _, _, _, h => by unfold Rp at h; subst h; exact .bl _
  | .int _, _, _, h => by unfold Rp at h; subst h; exact .int _
  | .str _, _, _, h => by unfold Rp at h; subst h; exact .str _
  | .list ds, _, hs, h => by
    unfold Rp at h
    obtain ⟨a, xs, e, n, r⟩ := h
    subst e
    exact .lst (.inl (.inl n.1)) (RpL.dp ds xs (by simpa [PyData.canLay0] using hs) r)
  | .tuple ds, _, hs, h => by
    unfold Rp at h
    obtain ⟨a, xs, e, n, r⟩ := h
    subst e
    exact .tup (n.elim (fun n => .inl (.inl n.1)) (fun n => .inr n)) (RpL.dp ds xs (by simpa [PyData.canLay0] using hs) r)
  | .dict _, _, hs, h => by simp [PyData.canLay0] at hs
theorem RpL.dp : ∀ (ds : List D) (xs : List V), PyData.canLayAll0 ds = true → RpL U ow H ds xs → DpAll U.K H xs ds
  | [], _, _, h => by unfold RpL at h; subst h; exact .nil
  | d :: ds, _, hs, h => by
    unfold RpL at h
    obtain ⟨x, ys, e, r, rs⟩ := h
    subst e
    have hs' : PyData.canLay0 d = true ∧ PyData.canLayAll0 ds = true := by simpa [PyData.canLayAll0] using hs
    exact .cons (Rp.dp d x hs'.1 r) (RpL.dp ds ys hs'.2 rs)
end
theorem Pk.dp {d : D} {v : V} (h : Pk U ow H d v) (hs : PyData.canLay0 d = true) : Dp U.K H v d := by
  cases d with
  | list ds =>
    obtain ⟨a, xs, e, n, r⟩ := h.list
    subst e
    exact .lst (.inl (.inl n)) (RpL.dp ds xs (by simpa [PyData.canLay0] using hs) r)
  | _ =>
    rcases h with h | ⟨_, h⟩
    · exact Rp.dp _ _ hs h
    · first
      | (simp [PyData.canLay0] at hs; done)
      | cases h.soft
end
end Py

set_option Elab.async false
set_option linter.all false
set_option maxRecDepth 100000
set_option maxHeartbeats 1000000
namespace Py
open PySem PySem.Spec PyProof.Rows L2

/-- the state: what stands in the slots, what is owned, what stood at the entry -/
structure SR (U : Wd) (H0 : Hp) (ow0 ow : Ow) (σ : L2.St) (H : Hp) (σd : St) (s : DS) : Prop where
  trk : ∀ a, ow a ≠ none → ∃ u, H a = some u ∧ ∀ xs, u ≠ .tup xs
  capo : ow U.cap = none
  cello : ow U.cell = none
  own0 : ∀ a i, ow a = some (i + 1) → H0 a = none
  agr : ∀ a u, H0 a = some u → ow a = ow0 a
  base : Ext U H0 H
  slots : ∀ (i : Nat) (d : D) (o : Bool), σd[i]? = some (some (d, o)) → ∃ v, σ[i]? = some (some v) ∧ (o = false → Rp U ow H d v) ∧ (o = true → Own U (i + 1) ow H d v)
  cap : Cap U H s
  len : σd.length = σ.length
section
variable {U : Wd} {H0 H H1 H2 : Hp} {ow0 ow : Ow} {σ : L2.St} {σd : St} {s s1 : DS}
theorem SR.ext (S : SR U H0 ow0 ow σ H σd s) (e : Ext U H H1) (c : Cap U H1 s1) : SR U H0 ow0 ow σ H1 σd s1 := by
  refine ⟨fun a h => ?_, S.capo, S.cello, S.own0, S.agr, S.base.trans e, fun i d o h => ?_, c, S.len⟩
  · obtain ⟨u, hu, ht⟩ := S.trk a h
    exact ⟨u, e a u (fun z => by rw [z] at h; exact h S.capo) hu, ht⟩
  · obtain ⟨v, h1, h2, h3⟩ := S.slots i d o h
    exact ⟨v, h1, fun z => (h2 z).ext e, fun z => (h3 z).ext e⟩
theorem SR.nocap (S : SR U H0 ow0 ow σ H σd s) {p : Addr} (np : H p = none) : p ≠ U.cap := fun z => by
  rw [z, S.cap.row] at np; cases np
theorem SR.noow (S : SR U H0 ow0 ow σ H σd s) {p : Addr} (np : H p = none) : ow p = none := by
  cases e : ow p with
  | none => rfl
  | some i =>
    obtain ⟨u, hu, _⟩ := S.trk p (by rw [e]; intro z; cases z)
    rw [np] at hu; cases hu
theorem Cap.new {p : Addr} {o : HO} (c : Cap U H s) (np : H p = none) : Cap U (upd H p o) s :=
  ⟨by rw [upd_ne (ne_of_none c.row np)]; exact c.row, by rw [upd_ne (ne_of_none c.cells np)]; exact c.cells, c.ne⟩
end

/-- an exception as the heap has it -/
def XFl (H : Hp) (fs : List (Str × Py.D)) (od : Option Addr) : Prop := (fs = [] ∧ od = none) ∨ ∃ m a, fs = [(("reason" : Str), PyData.str m)] ∧ od = some a ∧ H a = some (.xd [(("reason" : Str), V.str m)])
def XRep (U : Wd) (H : Hp) (x : Exc) (cls : Value) (od : Option Addr) : Prop := U.mg x.cls = some cls ∧ XFl H x.flds od
def PostE (U : Wd) (ow : Ow) (fr : D → Bool) (H : Hp) (Q : VK) (d : D) (s' : DS) : Prop :=
  ∀ v H', Ext U H H' → Cap U H' s' → Rp U ow H' d v → (fr d = true → RF U ow H H' d v) → Q v H'
def PostP (U : Wd) (ow : Ow) (H : Hp) (Q : VK) (d : D) (s' : DS) : Prop :=
  ∀ v H', Ext U H H' → Cap U H' s' → Pk U ow H' d v → Q v H'
def PostX (U : Wd) (W : WX) (σ : L2.St) (H : Hp) (x : Exc) (s' : DS) : Prop :=
  ∀ cls od H', Ext U H H' → Cap U H' s' → XRep U H' x cls od → W cls od σ H'
/-- the reading of an expression by what the interpreter says -/
def tOf (U : Wd) (W : WX) (f : St → M D) (fr : D → Bool) : TE := fun σ H Q => ∃ H0 ow0 ow σd s, SR U H0 ow0 ow σ H σd s ∧ Wp (f σd) s (PostE U ow fr H Q) (PostX U W σ H)
def tOfP (U : Wd) (W : WX) (f : St → M D) : TE := fun σ H Q => ∃ H0 ow0 ow σd s, SR U H0 ow0 ow σ H σd s ∧ Wp (f σd) s (PostP U ow H Q) (PostX U W σ H)
def tOfT (U : Wd) (W : WX) (f : St → M Bool) : TT := fun σ H Q => ∃ H0 ow0 ow σd s, SR U H0 ow0 ow σ H σd s ∧ Wp (f σd) s (fun b s' => ∀ H', Ext U H H' → Cap U H' s' → Q b H') (PostX U W σ H)
def tOfA (U : Wd) (W : WX) (f : St → M (List D)) : TA := fun σ H Q => ∃ H0 ow0 ow σd s, SR U H0 ow0 ow σ H σd s ∧ Wp (f σd) s (fun ds s' => ∀ vs H', Ext U H H' → Cap U H' s' → RpL U ow H' ds vs → Q vs H') (PostX U W σ H)
/-- peeked data, one by one -/
def PkL (U : Wd) (ow : Ow) (H : Hp) : List D → List V → Prop
  | [], xs => xs = []
  | d :: ds, xs => ∃ x ys, xs = x :: ys ∧ Pk U ow H d x ∧ PkL U ow H ds ys
def tOfPA (U : Wd) (W : WX) (f : St → M (List D)) : TA := fun σ H Q => ∃ H0 ow0 ow σd s, SR U H0 ow0 ow σ H σd s ∧ Wp (f σd) s (fun ds s' => ∀ vs H', Ext U H H' → Cap U H' s' → PkL U ow H' ds vs → Q vs H') (PostX U W σ H)

theorem PE.imp {X : Cx} {e : Expr} {t t' : TE} (h : PE X e t) (i : ∀ σ H Q, t' σ H Q → t σ H Q) : PE X e t' := ⟨fun pins s σ H Q I q => h.run pins s σ H Q I (i σ H Q q)⟩
theorem PT.imp {X : Cx} {e : Expr} {t t' : TT} (h : PT X e t) (i : ∀ σ H Q, t' σ H Q → t σ H Q) : PT X e t' := ⟨fun pins s σ H Q I q => h.run pins s σ H Q I (i σ H Q q)⟩
theorem PW.imp {X : Cx} {e : Expr} {t t' : TT} (h : PW X e t) (i : ∀ σ H Q, t' σ H Q → t σ H Q) : PW X e t' := ⟨fun wh pins s σ H Q I q => h.run wh pins s σ H Q I (i σ H Q q)⟩
theorem PA.imp {X : Cx} {e : List Expr} {t t' : TA} (h : PA X e t) (i : ∀ σ H Q, t' σ H Q → t σ H Q) : PA X e t' := ⟨fun pos pins s σ H Q I q => h.run pos pins s σ H Q I (i σ H Q q)⟩
theorem PS.imp {X : Cx} {e : Stmt} {t t' : TS} (h : PS X e t) (i : ∀ D σ H, t' D σ H → t D σ H) : PS X e t' := ⟨fun pins s σ H D I q => h.run pins s σ H D I (i D σ H q)⟩
theorem PSs.imp {X : Cx} {e : List Stmt} {t t' : TS} (h : PSs X e t) (i : ∀ D σ H, t' D σ H → t D σ H) : PSs X e t' := ⟨fun pins s σ H D I q => h.run pins s σ H D I (i D σ H q)⟩
/-- nothing is promised where it fails -/
theorem PE.fails {X : Cx} {e : Expr} {U : Wd} {W : WX} {f : St → M D} {fr : D → Bool} (h : ∀ σ, f σ = fail) : PE X e (tOf U W f fr) := ⟨fun pins s σ H Q I q => by
  obtain ⟨H0, ow0, ow, σd, s, S, w⟩ := q

  rw [h] at w
  exact w.of_fail.elim⟩

/-- where one stands -/
structure Good (U : Wd) (k : Nat) (Γ : Cxt) (X : Cx) (W : WX) : Prop where
  P : X.prog = U.P
  w : X.w = U.w
  K : X.K = U.K
  mg : X.mg = U.mg
  base : X.base = U.base
  N : X.N = Γ.N
  sc : X.env.scope = Γ.sc
  nd : Γ.N.Nodup
  calm : X.calm = true
  room : Room k X.A
  tk : Takes X W
  stl : ∀ x, Γ.st.names.lookup x = some .local → Γ.sc.names.lookup x = some .local
  stc : ∀ x, Γ.st.names.lookup x = some .cell → Γ.sc.names.lookup x = some .cell ∧ X.fn x = true

section
variable {U : Wd} {k : Nat} {Γ : Cxt} {X : Cx} {W : WX} {G : Gs}
/-! ### peeking -/
theorem tOf.peek {f : St → M D} {fr : D → Bool} {σ : L2.St} {H : Hp} {Q : VK} (h : tOfP U W f σ H Q) : tOf U W f fr σ H Q := by
  obtain ⟨H0, ow0, ow, σd, s, S, w⟩ := h

  exact ⟨H0, ow0, ow, σd, s, S, w.mono (fun d s' p v H' e c r _ => p v H' e c (.inl r)) fun _ _ h => h⟩
theorem kindL_vis {sc : Scope} {x : Str} (h : kindL sc x = true) : Vis sc x := by
  unfold kindL at h
  split at h
  · exact .inl (by assumption)
  · exact .inr (.inl (by assumption))
  · exact .inr (.inr (by assumption))
  · cases h
theorem kindG_gl (g : Good U k Γ X W) {x : Str} (h : kindG Γ.sc x = true) : Gl X x := by
  unfold kindG at h
  split at h
  · rename_i e
    show X.env.kindOf x = _
    unfold Env.kindOf
    rw [g.sc]
    exact e
  · cases h
theorem idxOf_get {N : List Str} {x : Str} {i : Nat} (h : N.idxOf? x = some i) : N[i]? = some x := by
  rw [List.idxOf?_eq_some_iff] at h
  obtain ⟨h1, h2, _⟩ := h
  rw [List.getElem?_eq_getElem h1]
  exact congrArg some (by simpa using h2)
theorem slot_get {x : Str} {i : Nat} (h : slot Γ x = some i) : kindL Γ.sc x = true ∧ Γ.N[i]? = some x := by
  unfold slot at h
  split at h
  · exact ⟨by assumption, idxOf_get h⟩
  · cases h
theorem okName_d {x : Str} (h : okName x = true) : (x == ("__debug__" : Str)) = false ∧ (x == ("__classdict__" : Str)) = false ∧ x ≠ "__name__" := by
  unfold okName at h
  simp only [Bool.and_eq_true, Bool.not_eq_true'] at h
  exact ⟨h.1.1, h.1.2, fun z => by rw [z] at h; simp at h⟩
end
/-- the module's constants, defs, exceptions -/
structure GlOk (U : Wd) (k : Nat) (G : Gs) : Prop where
  cst : ∀ x d, G.cst x = some d → ∃ u v, U.mg x = some u ∧ RelV v u ∧ ∀ ow H, Rp U ow H d v
  bare : ∀ x, G.bare x = true → U.mg x = none
  exc : ∀ c, G.exc c = true → ∃ C, U.mg c = some (.ref C) ∧ ((G.ini c = false ∧ ∃ bmB, ∃ B newId initId : String, ExcBaseFacts B newId initId bmB ∧ PySem.W.excIn U.K C bmB newId = true ∧ PySem.W.keepIn U.K (.ref C) = true ∧ (∀ X : Cx, X.K = U.K → Raises X (.ref C))) ∨
      (G.ini c = true ∧ ∃ fI, PySem.RefX.RefTxt U.P U.K C fI)) ∧
    ∀ c', G.exc c' = true → ∀ C', U.mg c' = some C' → PySem.W.exmOne U.K C' (.ref C) = some (decide (c' = c))
  sub : ∀ x F b, G.sub x F = some b → ∃ C cv, ∃ v : V, U.mg x = some (.ref C) ∧ ExcC U.K C ∧ ((U.mg F = some cv) ∨ (U.mg F = none ∧ bootBuiltins F = some cv)) ∧ RelV v cv ∧ (∀ u, RelV v u → u = cv) ∧ PySem.W.kitOne U.K (.ref C) cv = some b
section
variable {U : Wd} {k : Nat} {Γ : Cxt} {X : Cx} {W : WX} {G : Gs}
theorem pe_load (g : Good U k Γ X W) (go : GlOk U k G) {x : Str} {p : Pos} : PE X (.Name x p) (tOfP U W (fun σ => loadE G Γ σ true x)) ∧ ∀ fr : D → Bool, (∀ d, fr d = false) → PE X (.Name x p) (tOf U W (fun σ => loadE G Γ σ false x) fr) := by
  by_cases hok : okName x = true
  case neg =>
    refine ⟨⟨fun pins s σ H Q I q => ?_⟩, fun fr _ => ⟨fun pins s σ H Q I q => ?_⟩⟩ <;>
    · obtain ⟨H0, ow0, ow, σd, s, S, w⟩ := q
      dsimp only at w
      unfold loadE at w
      rw [if_neg hok] at w
      exact w.of_fail.elim
  case pos =>
  obtain ⟨hd, hcd, hn⟩ := okName_d hok
  cases hs : slot Γ x with
  | some i =>
    obtain ⟨hk, hN⟩ := slot_get hs
    have pv := pe_var (X := X) (pos := p) (i := i) (x := x) (by rw [g.N]; exact hN) (by rw [g.sc]; exact kindL_vis hk) hd hcd
    constructor
    · refine PE.imp pv fun σ H Q h => ?_
      obtain ⟨H0, ow0, ow, σd, s, S, w⟩ := h
      dsimp only at w
      unfold loadE at w
      rw [if_pos hok, hs] at w
      simp only at w
      split at w
      · rename_i d o e
        obtain ⟨v, h1, h2, h3⟩ := S.slots i d o e
        refine ⟨v, h1, ?_⟩
        rw [if_neg (by simp)] at w
        refine w.of_pure v H Ext.refl S.cap ?_
        cases o with
        | false => exact .inl (h2 rfl)
        | true => exact .inr ⟨_, h3 rfl⟩
      · exact w.of_fail.elim
    · intro fr hfr
      refine PE.imp pv fun σ H Q h => ?_
      obtain ⟨H0, ow0, ow, σd, s, S, w⟩ := h
      dsimp only at w
      unfold loadE at w
      rw [if_pos hok, hs] at w
      simp only at w
      split at w
      · rename_i d o e
        obtain ⟨v, h1, h2, h3⟩ := S.slots i d o e
        refine ⟨v, h1, ?_⟩
        cases o with
        | true => rw [if_pos (by simp)] at w; exact w.of_fail.elim
        | false =>
          rw [if_neg (by simp)] at w
          exact w.of_pure v H Ext.refl S.cap (h2 rfl) fun z => by rw [hfr] at z; cases z
      · exact w.of_fail.elim
  | none =>
    have key : ∀ (b : Bool) (σd : St) (s : DS) (Q : D → DS → Prop) (E : Exc → DS → Prop), Wp (loadE G Γ σd b x) s Q E → kindG Γ.sc x = true ∧ ∃ d, G.cst x = some d ∧ Q d s := by
      intro b σd s Q E w
      unfold loadE at w
      rw [if_pos hok, hs] at w
      simp only at w
      obtain ⟨hg, w⟩ := w.of_guard
      refine ⟨hg, ?_⟩
      split at w
      · rename_i d e
        exact ⟨d, e, w.of_pure⟩
      · exact w.of_fail.elim
    constructor
    · refine ⟨fun pins s σ H Q I q => ?_⟩
      obtain ⟨H0, ow0, ow, σd, s', S, w⟩ := q
      obtain ⟨hg, d, hc, w⟩ := key _ _ _ _ _ w
      obtain ⟨u, v, hm, rv, rp⟩ := go.cst x d hc
      exact (pe_glob (X := X) (pos := p) (kindG_gl g hg) (by rw [g.mg]; exact hm) rv hd).run pins s σ H Q I (w v H Ext.refl S.cap (.inl (rp ow H)))
    · intro fr hfr
      refine ⟨fun pins s σ H Q I q => ?_⟩
      obtain ⟨H0, ow0, ow, σd, s', S, w⟩ := q
      obtain ⟨hg, d, hc, w⟩ := key _ _ _ _ _ w
      obtain ⟨u, v, hm, rv, rp⟩ := go.cst x d hc
      exact (pe_glob (X := X) (pos := p) (kindG_gl g hg) (by rw [g.mg]; exact hm) rv hd).run pins s σ H Q I (w v H Ext.refl S.cap (rp ow H) fun z => by rw [hfr] at z; cases z)
theorem pe_evP (g : Good U k Γ X W) (go : GlOk U k G) {e : Expr} {f : St → Expr → M D} (h : PE X e (tOf U W (fun σ => f σ e) fun _ => false)) : PE X e (tOfP U W (fun σ => evP G Γ σ (f σ) e)) := by
  cases e with
  | Name x p => exact (pe_load g go).1
  | _ => exact PE.imp h fun σ H Q q => tOf.peek q
end
end Py

set_option Elab.async false
set_option linter.all false
set_option maxRecDepth 100000
set_option maxHeartbeats 1000000
namespace Py
open PySem PySem.Spec PyProof.Rows L2

/-- what a rule by values needs of the heap -/
structure Hk (U : Wd) (ow : Ow) (H : Hp) (s : DS) : Prop where
  trk : ∀ a, ow a ≠ none → ∃ u, H a = some u ∧ ∀ xs, u ≠ .tup xs
  capo : ow U.cap = none
  cap : Cap U H s
section
variable {U : Wd} {ow : Ow} {H : Hp} {s : DS}
theorem SR.hk {H0 : Hp} {ow0 : Ow} {σ : L2.St} {σd : St} (S : SR U H0 ow0 ow σ H σd s) : Hk U ow H s := ⟨S.trk, S.capo, S.cap⟩
theorem Hk.nocap (S : Hk U ow H s) {p : Addr} (np : H p = none) : p ≠ U.cap := fun z => by
  rw [z, S.cap.row] at np; cases np
theorem Hk.noow (S : Hk U ow H s) {p : Addr} (np : H p = none) : ow p = none := by
  cases e : ow p with
  | none => rfl
  | some i =>
    obtain ⟨u, hu, _⟩ := S.trk p (by rw [e]; intro z; cases z)
    rw [np] at hu; cases hu
/-- a new list is handed on -/
theorem Hk.newL (S : Hk U ow H s) {ds : List D} {xs : List V} {Q : VK} (fr : D → Bool) (r : RpL U ow H ds xs) (q : PostE U ow fr H Q (.list ds) s) {p : Addr} (np : H p = none) : Q (.ref p) (upd H p (.lst xs)) :=
  q _ _ (Ext.new np) (S.cap.new np) (Rp.newL r np (S.nocap np) (S.noow np)) fun _ => RF.new r np np (S.nocap np)
theorem Hk.newT (S : Hk U ow H s) {ds : List D} {xs : List V} {Q : VK} (fr : D → Bool) (r : RpL U ow H ds xs) (q : PostE U ow fr H Q (.tuple ds) s) (hf : fr (.tuple ds) = false) {p : Addr} (np : H p = none) : Q (.ref p) (upd H p (.tup xs)) :=
  q _ _ (Ext.new np) (S.cap.new np) (Rp.newT r np (S.nocap np) (S.noow np)) fun z => by rw [hf] at z; cases z
end
def rBin (U : Wd) (op : Operator) : R2 := fun x y H Q => ∃ ow s dx dy, Hk U ow H s ∧ Pk U ow H dx x ∧ Pk U ow H dy y ∧ Wp (binop op dx dy) s (PostE U ow isL H Q) (fun _ _ => True)
section
variable {X : Cx} {U : Wd} {ow : Ow} {H : Hp} {s : DS}
theorem sline_eq : sline = sizeLine := by rw [sizeLine_eq]; rfl
theorem postV {v : V} {d : D} {Q : VK} {fr : D → Bool} (S : Hk U ow H s) (q : PostE U ow fr H Q d s) (r : Rp U ow H d v) (hf : fr d = false) : Q v H :=
  q v H Ext.refl S.cap r fun z => by rw [hf] at z; cases z
theorem or_bin (hK : X.K = U.K) (op : Operator) : OpR X (binaryOp op) (rBin U op) := by
  intro pins s' σ H x y v u Q I rx ry h
  obtain ⟨ow, s, dx, dy, S, px, py, w⟩ := h
  unfold binop at w
  split at w
  · rw [px.int] at rx; rw [py.int] at ry
    exact op_add pins s' σ H _ _ v u Q I rx ry ⟨_, _, rfl, rfl, postV S w.of_pure Rp.int rfl⟩
  · rw [px.int] at rx; rw [py.int] at ry
    exact op_sub pins s' σ H _ _ v u Q I rx ry ⟨_, _, rfl, rfl, postV S w.of_pure Rp.int rfl⟩
  · rw [px.int] at rx; rw [py.int] at ry
    obtain ⟨hc, w⟩ := w.of_guard
    exact op_mulW pins s' σ H _ _ v u Q I rx ry ⟨_, _, rfl, rfl, hc, postV S w.of_pure Rp.int rfl⟩
  · rw [px.int] at rx; rw [py.int] at ry
    rcases w.of_ite with ⟨hc, w⟩ | ⟨_, w⟩
    · exact op_fdivW pins s' σ H _ _ v u Q I rx ry ⟨_, _, rfl, rfl, hc, postV S w.of_pure Rp.int rfl⟩
    · obtain ⟨hc, w⟩ := w.of_guard
      rename_i i j _
      obtain ⟨t, rfl⟩ := rx
      obtain ⟨t', rfl⟩ := ry
      exact floordiv_int (by omega) ⟨.int _, H, I.tok _, ⟨_, rfl⟩, postV S w.of_pure Rp.int rfl⟩ (.inl (PyProof.noPylong_of_log2 hc.2))
  · rw [px.int] at rx; rw [py.int] at ry
    obtain ⟨hc, w⟩ := w.of_guard
    exact op_mod pins s' σ H _ _ v u Q I rx ry ⟨_, _, rfl, rfl, hc, postV S w.of_pure Rp.int rfl⟩
  · rw [px.str] at rx; rw [py.str] at ry
    obtain ⟨hc, w⟩ := w.of_guard
    exact op_add_str pins s' σ H _ _ v u Q I rx ry ⟨_, _, rfl, rfl, by rw [← sline_eq]; exact hc, postV S w.of_pure Rp.str rfl⟩
  · obtain ⟨a, xs, e1, h1, r1⟩ := px.list
    obtain ⟨b, ys, e2, h2, r2⟩ := py.list
    subst e1 e2
    obtain ⟨hc, w⟩ := w.of_guard
    exact op_cat pins s' σ H _ _ v u Q I rx ry ⟨a, b, xs, ys, rfl, rfl, h1, h2, by rw [← sline_eq, ← r1.length, ← r2.length]; exact hc, fun p np => S.newL isL (r1.append r2) w.of_pure np⟩
  · rename_i as bs
    obtain ⟨a, xs, e1, h1, r1⟩ := px.tuple
    obtain ⟨b, ys, e2, h2, r2⟩ := py.tuple
    obtain ⟨hc, w⟩ := w.of_guard
    have w := w.of_pure
    have l1 := r1.length
    have l2 := r2.length
    subst e1 e2
    refine op_catA pins s' σ H _ _ v u Q I rx ry ⟨a, b, xs, ys, rfl, rfl, by rw [hK]; exact h1, by rw [hK]; exact h2, by rw [← sline_eq, ← l1, ← l2]; exact hc, fun z => ?_, fun _ z => ?_, fun _ _ p np => S.newT isL (r1.append r2) w rfl np⟩
    · subst z
      have : as = [] := by cases as with | nil => rfl | cons _ _ => simp at l1
      subst this
      rcases py with py | ⟨_, e⟩
      · exact postV S w (by simpa using py) rfl
      · cases e.soft
    · subst z
      have : bs = [] := by cases bs with | nil => rfl | cons _ _ => simp at l2
      subst this
      rcases px with px | ⟨_, e⟩
      · exact postV S w (by simpa using px) rfl
      · cases e.soft
  · obtain ⟨a, xs, e1, h1, r1⟩ := px.list
    rw [py.int] at ry
    subst e1
    obtain ⟨⟨hc1, hc2, hc3⟩, w⟩ := w.of_guard
    exact op_rep pins s' σ H _ _ v u Q I rx ry ⟨a, _, xs, rfl, rfl, h1, by omega, by omega, by rw [← sline_eq, ← r1.length]; exact hc3, fun p np => S.newL isL (r1.rep _) w.of_pure np⟩
  · rename_i as bs
    obtain ⟨a, xs, e1, h1, r1⟩ := px.tuple
    rw [py.int] at ry
    subst e1
    have hl := r1.length
    rcases w.of_ite with ⟨⟨hc1, hc2, hc3, hc4⟩, w⟩ | ⟨_, w⟩
    · exact op_repT pins s' σ H _ _ v u Q I rx ry ⟨a, _, xs, rfl, rfl, by rw [hK]; exact h1, fun z => hc1 (by rw [z] at hl; exact List.length_eq_zero_iff.mp hl), hc2, hc3, by rw [← hl]; exact hc4, fun p np => S.newT isL (r1.rep _) w.of_pure rfl np⟩
    · obtain ⟨⟨hc1, hc2⟩, w2⟩ := w.of_guard
      have w3 := w2.of_pure
      subst hc2
      refine op_once pins s' σ H _ _ v u Q I rx ry ⟨a, xs, rfl, rfl, by rw [hK]; exact h1, fun z => hc1 (by rw [z] at hl; exact List.length_eq_zero_iff.mp hl), ?_⟩
      rcases px with px | ⟨_, e⟩
      · exact postV (fr := isL) S w3 px rfl
      · cases e.soft
  · rw [px.bool] at rx; rw [py.bool] at ry
    cases rx; cases ry
    exact PyProof.Rows.sub_bool ⟨.int _, H, I.tok _, ⟨_, rfl⟩, postV S w.of_pure Rp.int rfl⟩
  · exact w.of_fail.elim

/-! ### comparisons -/
theorem Pk.of_non {d : D} (h : Pk U ow H d .non) : d = .none := by
  rcases h with h | ⟨_, _, _, e, _⟩
  · cases d with
    | none => rfl
    | list _ => unfold Rp at h; obtain ⟨_, _, e, _⟩ := h; cases e
    | tuple _ => unfold Rp at h; obtain ⟨_, _, e, _⟩ := h; cases e
    | dict _ => unfold Rp at h; rcases h with ⟨_, e⟩ | ⟨_, _, e, _⟩ <;> cases e
    | _ => unfold Rp at h; cases h
  · cases e
theorem sign1 {a : Str} (h : a.cps.size = 1) : a = ⟨#[a.cps.getD 0 0]⟩ := by
  obtain ⟨c⟩ := a
  have : c = #[c.getD 0 0] := by
    apply Array.ext
    · simpa using h
    · intro i h1 h2
      have : i = 0 := by simp at h; simp at h2; omega
      subst this
      simp [Array.getD, h1]
  exact congrArg Str.mk this
def rCmp (U : Wd) (op : CmpOp) : R2 := fun x y H Q => ∃ ow s dx dy, Hk U ow H s ∧ Pk U ow H dx x ∧ Pk U ow H dy y ∧ Wp (cmpop op dx dy) s (fun b s' => Q (.bl b) H) (fun _ _ => True)
theorem shaped_lay {d : D} (h : SeqAt.shaped d = true) : PyData.canLay0 d = true := SeqAt.canLay_of_shaped h
theorem eqD_wp {dx dy : D} {s : DS} {Q : Bool → DS → Prop} {E : Exc → DS → Prop} (w : Wp (eqD dx dy) s Q E) : SeqAt.shaped dx = true ∧ SeqAt.shaped dy = true ∧ Q (PyData.eqv dx dy) s := by
  unfold eqD at w
  obtain ⟨hc, w⟩ := w.of_guard
  exact ⟨hc.1, hc.2, w.of_pure⟩
theorem inTuple (hu : X.A.units + 65 < cLine) (neg : Bool) : OpR X (compareOp (if neg then .NotIn else .In)) (fun x y H Q => ∃ d ds, Dp X.K H x d ∧ Dp X.K H y (.tuple ds) ∧ SeqAt.shaped d = true ∧ SeqAt.shaped (.tuple ds) = true ∧ Q (.bl (if neg then !(ds.any fun z => PyData.eqv z d) else ds.any fun z => PyData.eqv z d)) H) := by
  intro pins s σ H x y v u Q I rx ry h
  obtain ⟨d, ds, hd, he, sd, se, q⟩ := h
  obtain ⟨as, r1⟩ := Dp.reads I d x v hd rx
  obtain ⟨bs, r2⟩ := Dp.reads I (.tuple ds) y u he ry
  have hl : PyData.canLayAll0 ds = true := by have := SeqAt.canLay_of_shaped se; simpa [PyData.canLay0] using this
  cases neg with
  | false => exact SeqAt.in_tuple_reads r2 r1 hl (SeqAt.canLay_of_shaped sd) (room_in_shaped sd hu) ⟨.bl _, H, I, rfl, q⟩
  | true => exact SeqAt.notIn_tuple_reads r2 r1 hl (SeqAt.canLay_of_shaped sd) (room_in_shaped sd hu) ⟨.bl _, H, I, rfl, q⟩
/-- the dict's rules, by where it stands -/
theorem kds_in (hK : X.K = U.K) (hw : X.w = U.w) {p : Addr} {xs : List (Key × V)} (D : KDs U p xs) (neg : Bool) (z : Str) : OpR X (compareOp (if neg then .NotIn else .In)) (fun x y H Q => x = .str z ∧ y = .ref p ∧ Q (.bl (if neg then !(valV xs (.inr z)).isSome else (valV xs (.inr z)).isSome)) H) := by
  intro pins s' σ H x y v u Q I rx ry h
  obtain ⟨e1, e2, q⟩ := h
  obtain ⟨⟨es, n, kd⟩, hz, _⟩ := D
  obtain ⟨r, hr, ro⟩ := hz z
  rw [← hK, ← hw] at kd
  rw [← hK] at hr
  have hs : (valV xs (.inr z)).isSome = r.isSome := ro.isSome_eq
  rw [hs] at q
  cases neg with
  | false => exact op_in_kd kd pins s' σ H x y v u Q I rx ry ⟨z, r, e1, e2, hr, q⟩
  | true => exact op_notIn_kd kd pins s' σ H x y v u Q I rx ry ⟨z, r, e1, e2, hr, q⟩
theorem or_in (hK : X.K = U.K) (hw : X.w = U.w) (hu : X.A.units + 65 < cLine) (neg : Bool) : OpR X (compareOp (if neg then .NotIn else .In)) (fun x y H Q => ∃ ow s dx dy, Hk U ow H s ∧ Pk U ow H dx x ∧ Pk U ow H dy y ∧ Wp (inD dx dy) s (fun b s' => Q (.bl (if neg then !b else b)) H) (fun _ _ => True)) := by
  intro pins s' σ H x y v u Q I rx ry h
  obtain ⟨ow, s, dx, dy, S, px, py, w⟩ := h
  unfold inD at w
  split at w
  · obtain ⟨hc, w⟩ := w.of_guard
    have w := w.of_pure
    have h1 := px.dp (shaped_lay hc.1)
    have h2 := py.dp (shaped_lay hc.2)
    rw [← hK] at h1 h2
    cases neg with
    | false => exact op_inD hu pins s' σ H x y v u Q I rx ry ⟨_, _, h1, h2, hc.1, hc.2, w⟩
    | true => exact op_notInD hu pins s' σ H x y v u Q I rx ry ⟨_, _, h1, h2, hc.1, hc.2, w⟩
  · obtain ⟨hc, w⟩ := w.of_guard
    have w := w.of_pure
    have h1 := px.dp (shaped_lay hc.1)
    have h2 := py.dp (shaped_lay hc.2)
    rw [← hK] at h1 h2
    exact inTuple hu neg pins s' σ H x y v u Q I rx ry ⟨_, _, h1, h2, hc.1, hc.2, w⟩
  · obtain ⟨hc, w⟩ := w.of_guard
    have w := w.of_pure
    rw [px.str, sign1 hc] at rx; rw [py.str] at ry
    cases neg with
    | false => exact op_in_sign pins s' σ H _ _ v u Q I rx ry ⟨_, _, rfl, rfl, w⟩
    | true => exact op_notIn_sign pins s' σ H _ _ v u Q I rx ry ⟨_, _, rfl, rfl, w⟩
  · rename_i a kvs
    obtain ⟨hd, w⟩ := w.of_guard
    have w := w.of_pure
    obtain ⟨p, xs, e1, hp, r⟩ := py.dict hd
    have ex := px.str
    rw [r.isSome] at w
    rcases hp with hp | hp
    · subst e1 ex
      obtain rfl : u = Value.ref p := ry
      have dg : DGet H p (.str a) (valV xs (.inr a)) := DGet.k (k := .inr a) hp
      cases neg with
      | false => exact d_in (by omega) I dg rx fun s3 I3 => ⟨.bl _, H, I3, rfl, w⟩
      | true => exact d_notIn (by omega) I dg rx fun s3 I3 => ⟨.bl _, H, I3, rfl, w⟩
    · exact kds_in hK hw hp neg a pins s' σ H x y v u Q I rx ry ⟨ex, e1, w⟩
  · exact w.of_fail.elim
theorem ltOk_ok {d : D} (h : ltOk d = true) : PyData.canLay0 d = true ∧ d.depth ≤ 32 := by
  unfold ltOk at h
  simpa using h
theorem or_cmp (hK : X.K = U.K) (hw : X.w = U.w) (hu : X.A.units + 65 < cLine) (op : CmpOp) : OpR X (compareOp op) (rCmp U op) := by
  intro pins s' σ H x y v u Q I rx ry h
  obtain ⟨ow, s, dx, dy, S, px, py, w⟩ := h
  unfold cmpop at w
  split at w
  · obtain ⟨h1, h2, w⟩ := eqD_wp w
    have k1 := px.dp (shaped_lay h1); have k2 := py.dp (shaped_lay h2)
    rw [← hK] at k1 k2
    exact op_eqD (by omega) pins s' σ H x y v u Q I rx ry ⟨_, _, k1, k2, h1, h2, w⟩
  · obtain ⟨h1, h2, w⟩ := eqD_wp w.of_bind
    have w := w.of_pure
    have k1 := px.dp (shaped_lay h1); have k2 := py.dp (shaped_lay h2)
    rw [← hK] at k1 k2
    exact op_neD (by omega) pins s' σ H x y v u Q I rx ry ⟨_, _, k1, k2, h1, h2, w⟩
  · rw [px.int] at rx; rw [py.int] at ry
    exact op_lt pins s' σ H _ _ v u Q I rx ry ⟨_, _, rfl, rfl, w.of_pure⟩
  · obtain ⟨⟨h1, h2, h3⟩, w⟩ := w.of_guard
    obtain ⟨l1, d1⟩ := ltOk_ok h2
    obtain ⟨l2, d2⟩ := ltOk_ok h3
    have k1 := px.dp l1; have k2 := py.dp l2
    rw [← hK] at k1 k2
    exact op_ltD pins s' σ H x y v u Q I rx ry ⟨_, _, k1, k2, h1, (fun z => nomatch z), by omega, w.of_pure⟩
  · rw [px.int] at rx; rw [py.int] at ry
    exact op_le pins s' σ H _ _ v u Q I rx ry ⟨_, _, rfl, rfl, w.of_pure⟩
  · rw [px.int] at rx; rw [py.int] at ry
    exact op_gt pins s' σ H _ _ v u Q I rx ry ⟨_, _, rfl, rfl, w.of_pure⟩
  · rw [px.int] at rx; rw [py.int] at ry
    exact op_ge pins s' σ H _ _ v u Q I rx ry ⟨_, _, rfl, rfl, w.of_pure⟩
  · have hx : Q (.bl (decide (x = .non))) H := by
      split at w
      · rw [px.none]; exact w.of_pure
      · rename_i hn
        have w := w.of_pure
        have : x ≠ .non := fun z => by
          subst z
          exact hn (px.of_non)
        rw [decide_eq_false this]; exact w
    exact op_isN pins s' σ H _ _ v u Q I rx ry ⟨py.none, hx⟩
  · have hx : Q (.bl (!decide (x = .non))) H := by
      split at w
      · rw [px.none]; exact w.of_pure
      · rename_i hn
        have w := w.of_pure
        have : x ≠ .non := fun z => by
          subst z
          exact hn (px.of_non)
        rw [decide_eq_false this]; exact w
    exact op_notN pins s' σ H _ _ v u Q I rx ry ⟨py.none, hx⟩
  · exact op_isBl pins s' σ H _ _ v u Q I rx ry ⟨_, _, px.bool, py.bool, by rw [← Bool.beq_eq_decide_eq]; exact w.of_pure⟩
  · exact op_notBl pins s' σ H _ _ v u Q I rx ry ⟨_, _, px.bool, py.bool, by rw [← Bool.beq_eq_decide_eq]; exact w.of_pure⟩
  · exact or_in hK hw hu false pins s' σ H x y v u Q I rx ry ⟨ow, s, _, _, S, px, py, w⟩
  · exact or_in hK hw hu true pins s' σ H x y v u Q I rx ry ⟨ow, s, _, _, S, px, py, w.of_bind.mono (fun b s' h => h.of_pure) fun _ _ h => h⟩
  · exact w.of_fail.elim

/-! ### places -/
def rIxA (U : Wd) : R2 := fun x y H Q => ∃ ow s dx dy, Hk U ow H s ∧ Pk U ow H dx x ∧ Pk U ow H dy y ∧ Wp (getD' dx dy) s (PostE U ow (fun _ => false) H Q) (fun _ _ => True)
theorem atI_get {α β : Type} {xs : List α} {ys : List β} {i : Int} {a : α} (hl : xs.length = ys.length) (h : L2.atI xs i = some a) : ∃ j : Nat, xs[j]? = some a ∧ ∀ b, ys[j]? = some b → L2.atI ys i = some b := by
  unfold L2.atI at h ⊢
  rw [hl] at h
  cases e : L2.ixN ys.length i with
  | none => rw [e] at h; cases h
  | some j =>
    rw [e] at h
    exact ⟨j, h, fun b hb => hb⟩
theorem Pk.dictAt {ow : Ow} {H : Hp} {kvs : List (D × D)} {v : V} {k : Key} {d : D} (h : Pk U ow H (.dict kvs) v) (e : dAt k kvs = some d) : ∃ a xs, v = .ref a ∧ (H a = some (.dK xs) ∨ KDs U a xs) ∧ RpD U ow H kvs xs := by
  rcases h with h | ⟨i, a, u, e2, h1, h2, h3, r⟩
  · unfold Rp at h
    rcases h with ⟨q, _⟩ | ⟨a, xs, e, n, r⟩
    · subst q; cases e
    · exact ⟨a, xs, e, n.imp (fun n => n.1) id, r⟩
  · obtain ⟨xs, eu, r2⟩ := r.dict
    subst eu
    exact ⟨a, xs, e2, .inl h1, r2⟩
theorem dict_ix (hK : X.K = U.K) (hw : X.w = U.w) (hu : X.A.units + 1 < cLine) {ow : Ow} (a b : Expr) (pins : List (Addr × Obj)) (s' : Shared) (σ : L2.St) (H : Hp) (x y : V) (v u : Value) (Q : VK) (I : Inv X pins σ H s') (rx : RelV x v) (ry : RelV y u) {k : Key} {kvs : List (D × D)} {d : D}
    (hy : y = kV k) (px : Pk U ow H (.dict kvs) x) (e : dAt k kvs = some d) (q : ∀ v', Rp U ow H d v' → Q v' H) (hs : subscripted b false v u = operate [v, u] (getItem v u)) : wpAny (model X.prog X.w) X.A (subscriptTail a b v u) (EP X pins σ Q) X.xe s' := by
  obtain ⟨p, xs, ex, hp, r⟩ := px.dictAt e
  obtain ⟨v', h1, rp⟩ := r.hit e
  subst ex hy
  obtain rfl : v = Value.ref p := rx
  rcases hp with hp | hp
  · have dg : DGet H p (kV k) (some v') := by rw [← h1]; exact DGet.k hp
    exact tail_any (dict_typeIs I dg) PySem.F.slot_dict_getitem.lookup (d_getItem hu I dg ry fun w' s3 I3 rw' => ⟨v', H, I3, rw', q v' rp⟩) hs
  · obtain ⟨⟨es, n, kd⟩, hz, ht⟩ := hp
    cases k with
    | inl i =>
      exfalso
      unfold valV at h1
      cases hf : xs.find? (fun kv => decide (kv.1 = Sum.inl i)) with
      | none => rw [hf] at h1; cases h1
      | some p =>
        have h2 := List.find?_some hf
        obtain ⟨z, e3⟩ := ht p (List.mem_of_find?_eq_some hf)
        rw [e3] at h2
        simp at h2
    | inr z =>
      obtain ⟨r', hr, ro⟩ := hz z
      rw [h1] at ro
      cases r' with
      | none => exact ro.elim
      | some u0 =>
        rw [← hK] at hr
        rw [← hK, ← hw] at kd
        exact ix_kdict a b pins s' σ H (.ref p) (kV (.inr z)) _ u Q I rfl ry ⟨p, z, v', rfl, rfl, ⟨es, n, u0, kd.at_, kd.lit, hr, ro⟩, q v' rp⟩ hs
theorem or_ix (hK : X.K = U.K) (hw : X.w = U.w) (hu : X.A.units + 65 < cLine) : IxR X (rIxA U) := by
  intro a b pins s' σ H x y v u Q I rx ry h hs
  obtain ⟨ow, s, dx, dy, S, px, py, w⟩ := h
  unfold getD' at w
  split at w
  · obtain ⟨p, xs, e1, h1, r1⟩ := px.list
    rw [py.int] at ry
    subst e1
    split at w
    · rename_i ds i d e
      have w := w.of_pure
      obtain ⟨j, hj, hb⟩ := atI_get r1.length e
      obtain ⟨x', hx', rp⟩ := r1.get hj
      exact ix_list a b pins s' σ H _ _ v u Q I rx ry ⟨p, xs, _, x', rfl, rfl, .inl (.inl h1), hb x' hx', postV S w rp rfl⟩ hs
    · exact w.of_fail.elim
  · obtain ⟨p, xs, e1, h1, r1⟩ := px.tuple
    rw [py.int] at ry
    subst e1
    split at w
    · rename_i ds i d e
      have w := w.of_pure
      obtain ⟨j, hj, hb⟩ := atI_get r1.length e
      obtain ⟨x', hx', rp⟩ := r1.get hj
      exact ix_tup a b pins s' σ H _ _ v u Q I rx ry ⟨p, xs, _, x', rfl, rfl, by rw [hK]; exact h1, hb x' hx', postV S w rp rfl⟩ hs
    · exact w.of_fail.elim
  · rename_i z i
    rw [px.str] at rx; rw [py.int] at ry
    split at w
    · rename_i c e
      obtain ⟨hz, w⟩ := w.of_guard
      have w := w.of_pure
      rw [sline_eq] at hz
      exact ix_str a b pins s' σ H _ _ v u Q I rx ry ⟨z, i, c, rfl, rfl, hz, e, postV S w Rp.str rfl⟩ hs
    · exact w.of_fail.elim
  · rename_i kvs i
    split at w
    · rename_i d e
      have w := w.of_pure
      exact dict_ix hK hw (by omega) a b pins s' σ H x y v u Q I rx ry (k := .inl i) py.int px e (fun v' rp => postV S w rp rfl) hs
    · exact w.of_fail.elim
  · rename_i kvs i
    split at w
    · rename_i d e
      have w := w.of_pure
      exact dict_ix hK hw (by omega) a b pins s' σ H x y v u Q I rx ry (k := .inr i) py.str px e (fun v' rp => postV S w rp rfl) hs
    · exact w.of_fail.elim
  · exact w.of_fail.elim
def rSlA' (U : Wd) : V → Option Int → Option Int → Hp → VK → Prop := fun x lo hi H Q => ∃ ow s dx, Hk U ow H s ∧ Pk U ow H dx x ∧ Wp (getS dx lo hi) s (PostE U ow isL H Q) (fun _ _ => True)
theorem RpL.cut {ds : List D} {xs : List V} (r : RpL U ow H ds xs) (lo hi : Option Int) : RpL U ow H (Py.cut ds lo hi) (L2.cutV xs lo hi) := by
  unfold Py.cut L2.cutV
  rw [r.length]
  exact (r.drop _).take _
theorem or_sl (hK : X.K = U.K) : SlR X (rSlA' U) := by
  intro pins s' σ H x v vl vu lo hi sl Q I rx hs pl pu h
  obtain ⟨ow, s, dx, S, px, w⟩ := h
  unfold getS at w
  split at w
  · obtain ⟨p, xs, e1, h1, r1⟩ := px.list
    exact sl_list pins s' σ H x v vl vu lo hi sl Q I rx hs pl pu ⟨p, xs, e1, .inl (.inl h1), fun q nq => S.newL isL (r1.cut lo hi) w.of_pure nq⟩
  · rename_i ds
    obtain ⟨p, xs, e1, h1, r1⟩ := px.tuple
    have w := w.of_pure
    have hl := r1.length
    refine sl_tupA pins s' σ H x v vl vu lo hi sl Q I rx hs pl pu ⟨p, xs, e1, by rw [hK]; exact h1, fun hw => ?_, fun _ q nq => S.newT isL (r1.cut lo hi) w rfl nq⟩
    have e : Py.cut ds lo hi = ds := by
      unfold Py.cut
      rw [hl, hw.1, hw.2, List.drop_zero, Nat.sub_zero, ← hl, List.take_length]
    rw [e] at w
    rcases px with px | ⟨_, e⟩
    · rw [e1] at px
      exact postV S w px rfl
    · cases e.soft
  · rename_i z
    obtain ⟨hz, w⟩ := w.of_guard
    have w := w.of_pure
    rw [sline_eq] at hz
    exact sl_str pins s' σ H x v vl vu lo hi sl Q I rx hs pl pu ⟨z, px.str, hz, postV S w Rp.str rfl⟩
  · exact w.of_fail.elim
end
end Py

set_option Elab.async false
set_option linter.all false
set_option maxRecDepth 100000
set_option maxHeartbeats 1000000
namespace Py
open PySem PySem.Spec PyProof.Rows L2

section
variable {U : Wd} {k : Nat} {Γ : Cxt} {X : Cx} {W : WX} {G : Gs} {ow : Ow} {H : Hp} {s : DS}
/-! ### argument lists -/
theorem starEach_ns {e : Expr} {es : List Expr} {env : Env} (h : notStar e = true) : starEach (e :: es) env = (false, eval e env) :: starEach es env := by
  cases e <;> first | rfl | exact absurd h (by show ¬ (false = true); decide)
theorem pa_evs {f : St → Expr → M D} (g : ∀ e, PE X e (tOf U W (fun σ => f σ e) fun _ => false)) : ∀ es : List Expr, PA X es (tOfA U W (fun σ => evs (f σ) es))
  | [] => PA.imp pa_nil fun σ H Q h => by
    obtain ⟨H0, ow0, ow, σd, s, S, w⟩ := h
    exact w.of_pure [] H Ext.refl S.cap RpL.nil
  | e :: es => by
    by_cases hn : notStar e = true
    · refine PA.imp (pa_cons (g e) (pa_evs g es) (starEach_ns hn)) fun σ H Q h => ?_
      obtain ⟨H0, ow0, ow, σd, s, S, w⟩ := h
      have w : Wp (evs (f σd) (e :: es)) s _ _ := w
      unfold evs at w
      rw [if_pos hn] at w
      refine ⟨H0, ow0, ow, σd, s, S, w.of_bind.mono (fun d1 s1 h1 v1 H1 e1 c1 r1 _ => ⟨H0, ow0, ow, σd, s1, S.ext e1 c1, h1.of_bind.mono (fun ds s2 h2 vs H2 e2 c2 r2 => h2.of_pure (v1 :: vs) H2 (e1.trans e2) c2 (RpL.cons (r1.ext e2) r2)) fun x s' hx cls od H' e' => hx cls od H' (e1.trans e')⟩) fun _ _ h => h⟩
    · refine ⟨fun pos pins s σ H Q I h => ?_⟩
      obtain ⟨H0, ow0, ow, σd, s, S, w⟩ := h
      have w : Wp (evs (f σd) (e :: es)) s _ _ := w
      unfold evs at w
      rw [if_neg hn] at w
      exact w.of_fail.elim
theorem pa_evsP {f : St → Expr → M D} (g : ∀ e, PE X e (tOfP U W (fun σ => f σ e))) : ∀ es : List Expr, PA X es (tOfPA U W (fun σ => evs (f σ) es))
  | [] => PA.imp pa_nil fun σ H Q h => by
    obtain ⟨H0, ow0, ow, σd, s, S, w⟩ := h
    exact w.of_pure [] H Ext.refl S.cap (by unfold PkL; rfl)
  | e :: es => by
    by_cases hn : notStar e = true
    · refine PA.imp (pa_cons (g e) (pa_evsP g es) (starEach_ns hn)) fun σ H Q h => ?_
      obtain ⟨H0, ow0, ow, σd, s, S, w⟩ := h
      have w : Wp (evs (f σd) (e :: es)) s _ _ := w
      unfold evs at w
      rw [if_pos hn] at w
      refine ⟨H0, ow0, ow, σd, s, S, w.of_bind.mono (fun d1 s1 h1 v1 H1 e1 c1 r1 => ⟨H0, ow0, ow, σd, s1, S.ext e1 c1, h1.of_bind.mono (fun ds s2 h2 vs H2 e2 c2 r2 => h2.of_pure (v1 :: vs) H2 (e1.trans e2) c2 (by unfold PkL; exact ⟨v1, vs, rfl, r1.ext e2, r2⟩)) fun x s' hx cls od H' e' => hx cls od H' (e1.trans e')⟩) fun _ _ h => h⟩
    · refine ⟨fun pos pins s σ H Q I h => ?_⟩
      obtain ⟨H0, ow0, ow, σd, s, S, w⟩ := h
      have w : Wp (evs (f σd) (e :: es)) s _ _ := w
      unfold evs at w
      rw [if_neg hn] at w
      exact w.of_fail.elim
/-- evs needs no star: what calls ask -/
theorem evs_star {f : Expr → M D} {es : List Expr} {s : DS} {Q : List D → DS → Prop} {E : Exc → DS → Prop} (w : Wp (evs f es) s Q E) : ∀ e r, es = e :: r → notStar e = true := by
  intro e r h
  subst h
  unfold evs at w
  exact (w.of_guard).1
theorem plain_star {env : Env} {pos : Pos} : ∀ {es : List Expr}, (∀ e ∈ es, notStar e = true) → (backTo pos (starEach es env)).any (·.1) = false
  | [], _ => rfl
  | e :: es, h => by
    rw [starEach_ns (h e List.mem_cons_self)]
    show ((false || (backTo pos (starEach es env)).any (·.1)) : Bool) = false
    rw [plain_star (fun e' h' => h e' (by simp [h']))]
    rfl
theorem noStars_mem {es : List Expr} (h : noStars es = true) : ∀ e ∈ es, notStar e = true := fun e he => List.all_eq_true.mp h e he

/-! ### the built-in functions -/
def rBi (U : Wd) (f : Str) : List V → Hp → VK → Prop := fun vs H Q => ∃ ow s ds, Hk U ow H s ∧ PkL U ow H ds vs ∧ Wp (bi f ds) s (PostE U ow (fun d => frB f && isL d) H Q) (fun _ _ => True)
theorem PkL.one {d : D} {vs : List V} (h : PkL U ow H [d] vs) : ∃ v, vs = [v] ∧ Pk U ow H d v := by
  unfold PkL at h
  obtain ⟨x, ys, e, p, r⟩ := h
  unfold PkL at r
  subst r
  exact ⟨x, e, p⟩
theorem PkL.two {d e : D} {vs : List V} (h : PkL U ow H [d, e] vs) : ∃ v w, vs = [v, w] ∧ Pk U ow H d v ∧ Pk U ow H e w := by
  unfold PkL at h
  obtain ⟨x, ys, e1, p, r⟩ := h
  obtain ⟨y, e2, q⟩ := PkL.one r
  subst e2
  exact ⟨x, y, e1, p, q⟩
theorem ints_of : ∀ {ds : List D} {xs : List V} {ns : List Int}, RpL U ow H ds xs → intsOf ds = some ns → xs = ns.map V.int
  | [], xs, ns, r, e => by
    unfold RpL at r
    unfold intsOf at e
    cases e; subst r; rfl
  | d :: ds, xs, ns, r, e => by
    unfold RpL at r
    obtain ⟨x, ys, e1, p, r⟩ := r
    unfold intsOf at e
    split at e
    · rename_i z; cases z
    · rename_i i ds' z
      cases z
      cases h : intsOf ds with
      | none => rw [h] at e; cases e
      | some ms =>
        rw [h] at e
        cases e
        unfold Rp at p
        rw [e1, p, ints_of r h]
        rfl
    · cases e
theorem bools_of : ∀ {ds : List D} {xs : List V} {ns : List Bool}, RpL U ow H ds xs → boolsOf ds = some ns → xs = ns.map V.bl
  | [], xs, ns, r, e => by
    unfold RpL at r
    unfold boolsOf at e
    cases e; subst r; rfl
  | d :: ds, xs, ns, r, e => by
    unfold RpL at r
    obtain ⟨x, ys, e1, p, r⟩ := r
    unfold boolsOf at e
    split at e
    · rename_i z; cases z
    · rename_i i ds' z
      cases z
      cases h : boolsOf ds with
      | none => rw [h] at e; cases e
      | some ms =>
        rw [h] at e
        cases e
        unfold Rp at p
        rw [e1, p, bools_of r h]
        rfl
    · cases e
theorem maxI_mem : ∀ (ns : List Int) (n : Int), (ns.foldl max n = n ∨ ns.foldl max n ∈ ns) ∧ n ≤ ns.foldl max n ∧ ∀ m ∈ ns, m ≤ ns.foldl max n
  | [], n => ⟨.inl rfl, Int.le_refl _, fun m h => by simp at h⟩
  | x :: r, n => by
    obtain ⟨h1, h2, h3⟩ := maxI_mem r (max n x)
    rw [List.foldl_cons]
    refine ⟨?_, Int.le_trans (Int.le_max_left _ _) h2, fun m hm => ?_⟩
    · rcases h1 with h1 | h1
      · rw [h1]
        by_cases hc : n ≤ x
        · rw [Int.max_eq_right hc]; exact .inr List.mem_cons_self
        · rw [Int.max_eq_left (by omega)]; exact .inl rfl
      · exact .inr (List.mem_cons_of_mem _ h1)
    · rcases List.mem_cons.mp hm with e | hm
      · subst e; exact Int.le_trans (Int.le_max_right _ _) h2
      · exact h3 m hm
theorem minI_mem : ∀ (ns : List Int) (n : Int), (ns.foldl min n = n ∨ ns.foldl min n ∈ ns) ∧ ns.foldl min n ≤ n ∧ ∀ m ∈ ns, ns.foldl min n ≤ m
  | [], n => ⟨.inl rfl, Int.le_refl _, fun m h => by simp at h⟩
  | x :: r, n => by
    obtain ⟨h1, h2, h3⟩ := minI_mem r (min n x)
    rw [List.foldl_cons]
    refine ⟨?_, Int.le_trans h2 (Int.min_le_left _ _), fun m hm => ?_⟩
    · rcases h1 with h1 | h1
      · rw [h1]
        by_cases hc : n ≤ x
        · rw [Int.min_eq_left hc]; exact .inl rfl
        · rw [Int.min_eq_right (by omega)]; exact .inr List.mem_cons_self
      · exact .inr (List.mem_cons_of_mem _ h1)
    · rcases List.mem_cons.mp hm with e | hm
      · subst e; exact Int.le_trans h2 (Int.min_le_right _ _)
      · exact h3 m hm
theorem maxI_is {n m : Int} {ns : List Int} (hm : m ∈ n :: ns) (hb : ∀ y, y ∈ n :: ns → y ≤ m) : m = maxI (n :: ns) := by
  obtain ⟨h1, h2, h3⟩ := maxI_mem ns n
  show m = ns.foldl max n
  refine Int.le_antisymm ?_ (hb _ ?_)
  · rcases List.mem_cons.mp hm with e | hm
    · subst e; exact h2
    · exact h3 m hm
  · rcases h1 with h1 | h1
    · rw [h1]; exact List.mem_cons_self
    · exact List.mem_cons_of_mem _ h1
theorem minI_is {n m : Int} {ns : List Int} (hm : m ∈ n :: ns) (hb : ∀ y, y ∈ n :: ns → m ≤ y) : m = minI (n :: ns) := by
  obtain ⟨h1, h2, h3⟩ := minI_mem ns n
  show m = ns.foldl min n
  refine Int.le_antisymm (hb _ ?_) ?_
  · rcases h1 with h1 | h1
    · rw [h1]; exact List.mem_cons_self
    · exact List.mem_cons_of_mem _ h1
  · rcases List.mem_cons.mp hm with e | hm
    · subst e; exact h2
    · exact h3 m hm
theorem dp_ints {K : PySem.W.Frag} : ∀ ns : List Int, DpAll K H (ns.map V.int) (ns.map PyData.int)
  | [] => .nil
  | n :: ns => .cons (.int n) (dp_ints ns)
theorem alike_allInts (ns : List Int) : PySem.W.AlikeAll (ns.map PyData.int) := by
  refine ⟨fun x hx y hy => ?_, fun x hx => ?_⟩
  · obtain ⟨i, _, rfl⟩ := List.mem_map.mp hx
    obtain ⟨j, _, rfl⟩ := List.mem_map.mp hy
    rfl
  · obtain ⟨i, _, rfl⟩ := List.mem_map.mp hx
    intro z; cases z
theorem depth_ints : ∀ ns : List Int, PyData.depthAll (ns.map PyData.int) ≤ 1
  | [] => by simp [PyData.depthAll]
  | n :: ns => by
    have := depth_ints ns
    simp only [List.map_cons, PyData.depthAll, PyData.depth]
    omega
theorem cr_maxT (hc : X.calm = true) (hu : X.A.units + 64 < cLine) : CallR X (.builtin "max") (fun vs H Q => ∃ (a : Addr) (n : Int) (ns : List Int), vs = [V.ref a] ∧ SqT X.K H a ((n :: ns).map V.int) ∧ Q (.int (maxI (n :: ns))) H) := by
  intro pins s σ H vs us Q I r h
  obtain ⟨a, n, ns, rfl, hs, q⟩ := h
  obtain ⟨its, rv, hl, _⟩ := I.tuple hs
  rw [Vals.ref1 r]
  obtain ⟨as, hr⟩ := Dp.readsAll I _ _ its (dp_ints (K := X.K) (H := H) (n :: ns)) rv
  refine PySem.W.max_tuple_data (x := .int n) (xs := ns.map .int) (as := as) (I.ok.hd hc) hl hr (alike_allInts (n :: ns)) (by have := depth_ints (n :: ns); simp only [List.map_cons] at this; omega) fun i v h' tk bs _ hv hk => ?_
  rw [PySem.W.maxD_ints] at hv
  cases hv
  exact ⟨.int _, H, I.kept hk, ⟨_, rfl⟩, q⟩
theorem cr_minT (hc : X.calm = true) (hu : X.A.units + 64 < cLine) : CallR X (.builtin "min") (fun vs H Q => ∃ (a : Addr) (n : Int) (ns : List Int), vs = [V.ref a] ∧ SqT X.K H a ((n :: ns).map V.int) ∧ Q (.int (minI (n :: ns))) H) := by
  intro pins s σ H vs us Q I r h
  obtain ⟨a, n, ns, rfl, hs, q⟩ := h
  obtain ⟨its, rv, hl, _⟩ := I.tuple hs
  rw [Vals.ref1 r]
  obtain ⟨as, hr⟩ := Dp.readsAll I _ _ its (dp_ints (K := X.K) (H := H) (n :: ns)) rv
  refine PySem.W.min_tuple_data (x := .int n) (xs := ns.map .int) (as := as) (I.ok.hd hc) hl hr (alike_allInts (n :: ns)) (by have := depth_ints (n :: ns); simp only [List.map_cons] at this; omega) fun i v h' tk bs _ hv hk => ?_
  rw [PySem.W.minD_ints] at hv
  cases hv
  exact ⟨.int _, H, I.kept hk, ⟨_, rfl⟩, q⟩
/-- sum of a tuple of ints -/
theorem cr_sumT (hc : X.calm = true) : CallR X (.builtin "sum") (fun vs H Q => ∃ (a : Addr) (ns : List Int), vs = [V.ref a] ∧ SqT X.K H a (ns.map V.int) ∧ Q (.int ns.sum) H) := by
  intro pins s σ H vs us Q I r h
  obtain ⟨a, ns, rfl, hs, q⟩ := h
  obtain ⟨its, rv, hl, _⟩ := I.tuple hs
  rw [Vals.ref1 r]
  have hi := rv.ints
  obtain ⟨xs, e⟩ := hi.allInts.items
  have hn : numsOf (intItems xs).toList = ns := by rw [← e]; exact hi.numsOf
  rw [nums_intItems] at hn
  have hl : s.heap.IsTuple a its.toArray := hl
  rw [e] at hl
  refine PySem.W.ktm_sumG (I.ok.hd hc) hl fun h' tk t' hk => ?_
  rw [preSum_eq, List.take_of_length_le (by simp), hn]
  exact ⟨.int _, H, I.kept hk, ⟨_, rfl⟩, q⟩
theorem sortI_is {ns ns' : List Int} (h : ns'.Perm ns) (hs : ns'.Pairwise (· ≤ ·)) : sortI ns = ns' := by
  refine List.Perm.eq_of_pairwise (le := (· ≤ ·)) (fun a b _ _ h1 h2 => Int.le_antisymm h1 h2) ?_ hs ((List.mergeSort_perm ns _).trans h.symm)
  have := List.pairwise_mergeSort (le := fun a b : Int => decide (a ≤ b)) (fun a b c h1 h2 => by simp at h1 h2 ⊢; omega) (fun a b => by simp; omega) ns
  exact this.imp fun h => of_decide_eq_true h
theorem RpL.ints : ∀ ns : List Int, RpL U ow H (ns.map PyData.int) (ns.map V.int)
  | [] => RpL.nil
  | n :: ns => RpL.cons Rp.int (RpL.ints ns)
theorem srtOk_ok {ds : List D} (h : srtOk ds = true) : PySem.W.AllAlike ds ∧ PySem.W.Sortable ds ∧ PyData.canLayAll0 ds = true ∧ ∀ d ∈ ds, d.depth ≤ 32 := by
  unfold srtOk at h
  rw [Bool.and_eq_true, Bool.and_eq_true, Bool.and_eq_true, Bool.or_eq_true] at h
  obtain ⟨⟨h1, h2⟩, h3, _⟩ := h
  refine ⟨fun d hd e he => List.all_eq_true.mp (List.all_eq_true.mp h1 d hd) e he, ?_, ?_, fun d hd => (ltOk_ok (List.all_eq_true.mp h3 d hd)).2⟩
  · rcases h2 with h2 | h2
    · refine .inl fun d hd => ?_
      have := List.all_eq_true.mp h2 d hd
      unfold neT at this
      split at this
      · exact ⟨_, _, rfl⟩
      · cases this
    · refine .inr fun d hd => ?_
      have := List.all_eq_true.mp h2 d hd
      refine ⟨fun z => (by rw [z] at this; cases this), fun xs z => (by rw [z] at this; cases this)⟩
  · have : ∀ l : List D, (∀ d ∈ l, PyData.canLay0 d = true) → PyData.canLayAll0 l = true := fun l => by
      induction l with
      | nil => intro _; simp [PyData.canLayAll0]
      | cons x l ih =>
        intro hl
        simp only [PyData.canLayAll0, Bool.and_eq_true]
        exact ⟨hl x (by simp), ih fun d hd => hl d (by simp [hd])⟩
    exact this ds fun d hd => (ltOk_ok (List.all_eq_true.mp h3 d hd)).1
theorem RpL.pairs : ∀ {ds : List D} {xs : List V}, RpL U ow H ds xs → ∀ b ∈ ds.zip xs, Rp U ow H b.1 b.2
  | [], _, h, b, hb => by unfold RpL at h; subst h; simp at hb
  | d :: ds, _, h, b, hb => by
    unfold RpL at h
    obtain ⟨x, ys, e, r, rs⟩ := h
    subst e
    rw [List.zip_cons_cons] at hb
    rcases List.mem_cons.mp hb with rfl | hb
    · exact r
    · exact RpL.pairs rs b hb
theorem RpL.of_pairs : ∀ {zs : List (D × V)}, (∀ b ∈ zs, Rp U ow H b.1 b.2) → RpL U ow H (zs.map Prod.fst) (zs.map Prod.snd)
  | [], _ => RpL.nil
  | z :: zs, h => RpL.cons (h z (by simp)) (RpL.of_pairs fun b hb => h b (by simp [hb]))
theorem zip_fst' : ∀ {ds : List D} {xs : List V}, ds.length = xs.length → (ds.zip xs).map Prod.fst = ds
  | [], _, _ => by simp
  | d :: ds, [], h => by simp at h
  | d :: ds, x :: xs, h => by rw [List.zip_cons_cons, List.map_cons, zip_fst' (by simpa using h)]
theorem srt_rep {ds : List D} {xs : List V} (h : RpL U ow H ds xs) : RpL U ow H (ds.mergeSort (PySem.W.dataLe false id)) (((ds.zip xs).mergeSort (PySem.W.dataLe false Prod.fst)).map Prod.snd) := by
  have e : ((ds.zip xs).mergeSort (PySem.W.dataLe false Prod.fst)).map Prod.fst = ds.mergeSort (PySem.W.dataLe false id) := by
    have := PySem.W.sort_maps (r := PySem.W.dataLe false Prod.fst) (s := PySem.W.dataLe false id) (Prod.fst : D × V → D) (l := ds.zip xs) (fun _ _ _ _ => rfl)
    rw [zip_fst' h.length] at this
    exact this
  rw [← e]
  exact RpL.of_pairs fun b hb => h.pairs b (List.mem_mergeSort.mp hb)
theorem cr_bi (hK : X.K = U.K) (hc : X.calm = true) (hu : X.A.units + 64 < cLine) {f : Str} {u : Value} (hv : bootBuiltins f = some u) : CallR X u (rBi U f) := by
  intro pins s' σ H vs us Q I r h
  obtain ⟨ow, s, ds, S, pl, w⟩ := h
  unfold bi at w
  by_cases h1 : f = ("len" : Str)
  · subst h1
    rw [if_pos rfl] at w
    cases (PySem.boot_len.symm.trans hv)
    split at w
    · obtain ⟨v, rfl, p⟩ := pl.one
      obtain ⟨a, xs, e, hx, rr⟩ := p.list
      subst e
      have w := w.of_pure
      rw [rr.length] at w
      exact call_len_seq pins s' σ H _ us Q I r ⟨a, xs, rfl, .inl (.inl (.inl hx)), postV S w Rp.int rfl⟩
    · obtain ⟨v, rfl, p⟩ := pl.one
      obtain ⟨a, xs, e, hx, rr⟩ := p.tuple
      subst e
      have w := w.of_pure
      rw [rr.length] at w
      exact call_len_seq pins s' σ H _ us Q I r ⟨a, xs, rfl, .inr (by rw [hK]; exact hx), postV S w Rp.int rfl⟩
    · obtain ⟨v, rfl, p⟩ := pl.one
      obtain ⟨hz, w⟩ := w.of_guard
      have w := w.of_pure
      rw [sline_eq] at hz
      rw [p.str] at r
      exact call_len_str pins s' σ H _ us Q I r ⟨_, rfl, hz, postV S w Rp.int rfl⟩
    · exact w.of_fail.elim
  rw [if_neg h1] at w
  by_cases h2 : f = ("sum" : Str)
  · subst h2
    rw [if_pos rfl] at w
    cases ((show bootBuiltins "sum" = some (.builtin "sum") by decide +kernel).symm.trans hv)
    split at w
    · obtain ⟨v, rfl, p⟩ := pl.one
      rename_i x
      split at w
      · rename_i ns e
        have w := w.of_pure
        cases x with
        | list ds =>
          obtain ⟨a, xs, e1, hx, rr⟩ := p.list
          subst e1
          have e2 := ints_of rr (by simpa [itemsOf] using e)
          subst e2
          exact cr_sum hc pins s' σ H _ us Q I r ⟨a, ns, rfl, .inl (.inl hx), postV S w Rp.int rfl⟩
        | tuple ds =>
          obtain ⟨a, xs, e1, hx, rr⟩ := p.tuple
          subst e1
          have e2 := ints_of rr (by simpa [itemsOf] using e)
          subst e2
          exact cr_sumT hc pins s' σ H _ us Q I r ⟨a, ns, rfl, by rw [hK]; exact hx, postV S w Rp.int rfl⟩
        | _ => simp [itemsOf] at e
      · exact w.of_fail.elim
    · exact w.of_fail.elim
  rw [if_neg h2] at w
  by_cases h3 : f = ("abs" : Str)
  · subst h3
    rw [if_pos rfl] at w
    cases (PyProof.Rows.boot_abs.symm.trans hv)
    split at w
    · obtain ⟨v, rfl, p⟩ := pl.one
      rw [p.int] at r
      exact call_abs pins s' σ H _ us Q I r ⟨_, rfl, postV S w.of_pure Rp.int rfl⟩
    · exact w.of_fail.elim
  rw [if_neg h3] at w
  by_cases h4 : f = ("max" : Str)
  · subst h4
    rw [if_pos rfl] at w
    cases ((show bootBuiltins "max" = some (.builtin "max") by decide +kernel).symm.trans hv)
    split at w
    · obtain ⟨v, v', rfl, p, p'⟩ := pl.two
      rw [p.int, p'.int] at r
      exact call_max2 hc pins s' σ H _ us Q I r ⟨_, _, rfl, postV S w.of_pure Rp.int rfl⟩
    · obtain ⟨v, rfl, p⟩ := pl.one
      rename_i x
      split at w
      · rename_i n ns e
        have w := w.of_pure
        cases x with
        | list ds =>
          obtain ⟨a, xs, e1, hx, rr⟩ := p.list
          subst e1
          have e2 := ints_of rr (by simpa [itemsOf] using e)
          subst e2
          refine cr_max hc pins s' σ H _ us Q I r ⟨a, n :: ns, rfl, .inl (.inl hx), by simp, fun m hm hb => ?_⟩
          rw [maxI_is hm hb]
          exact postV S w Rp.int rfl
        | tuple ds =>
          obtain ⟨a, xs, e1, hx, rr⟩ := p.tuple
          subst e1
          have e2 := ints_of rr (by simpa [itemsOf] using e)
          subst e2
          exact cr_maxT hc hu pins s' σ H _ us Q I r ⟨a, n, ns, rfl, by rw [hK]; exact hx, postV S w Rp.int rfl⟩
        | _ => simp [itemsOf] at e
      · exact w.of_fail.elim
    · exact w.of_fail.elim
  rw [if_neg h4] at w
  by_cases h5 : f = ("min" : Str)
  · subst h5
    rw [if_pos rfl] at w
    cases ((show bootBuiltins "min" = some (.builtin "min") by decide +kernel).symm.trans hv)
    split at w
    · obtain ⟨v, v', rfl, p, p'⟩ := pl.two
      rw [p.int, p'.int] at r
      exact call_min2 hc pins s' σ H _ us Q I r ⟨_, _, rfl, postV S w.of_pure Rp.int rfl⟩
    · obtain ⟨v, rfl, p⟩ := pl.one
      rename_i x
      split at w
      · rename_i n ns e
        have w := w.of_pure
        cases x with
        | list ds =>
          obtain ⟨a, xs, e1, hx, rr⟩ := p.list
          subst e1
          have e2 := ints_of rr (by simpa [itemsOf] using e)
          subst e2
          refine cr_min hc pins s' σ H _ us Q I r ⟨a, n :: ns, rfl, .inl (.inl hx), by simp, fun m hm hb => ?_⟩
          rw [minI_is hm hb]
          exact postV S w Rp.int rfl
        | tuple ds =>
          obtain ⟨a, xs, e1, hx, rr⟩ := p.tuple
          subst e1
          have e2 := ints_of rr (by simpa [itemsOf] using e)
          subst e2
          exact cr_minT hc hu pins s' σ H _ us Q I r ⟨a, n, ns, rfl, by rw [hK]; exact hx, postV S w Rp.int rfl⟩
        | _ => simp [itemsOf] at e
      · exact w.of_fail.elim
    · exact w.of_fail.elim
  rw [if_neg h5] at w
  by_cases h6 : f = ("int" : Str)
  · subst h6
    rw [if_pos rfl] at w
    cases (PyProof.Rows.boot_int.symm.trans hv)
    split at w
    · obtain ⟨v, rfl, p⟩ := pl.one
      rw [p.int] at r
      exact call_int1 pins s' σ H _ us Q I r (.inl ⟨_, rfl, postV S w.of_pure Rp.int rfl⟩)
    · obtain ⟨v, rfl, p⟩ := pl.one
      rw [p.bool] at r
      exact call_int1 pins s' σ H _ us Q I r (.inr ⟨_, rfl, postV S w.of_pure Rp.int rfl⟩)
    · exact w.of_fail.elim
  rw [if_neg h6] at w
  by_cases h7 : f = ("list" : Str)
  · subst h7
    rw [if_pos rfl] at w
    cases (PyProof.Rows.boot_list.symm.trans hv)
    split at w
    · obtain ⟨v, rfl, p⟩ := pl.one
      obtain ⟨a, xs, e, hx, rr⟩ := p.list
      subst e
      exact call_list_of pins s' σ H _ us Q I r ⟨a, xs, rfl, .inl (.inl (.inl hx)), fun p np => S.newL _ rr w.of_pure np⟩
    · obtain ⟨v, rfl, p⟩ := pl.one
      obtain ⟨a, xs, e, hx, rr⟩ := p.tuple
      subst e
      exact call_list_of pins s' σ H _ us Q I r ⟨a, xs, rfl, .inr (by rw [hK]; exact hx), fun p np => S.newL _ rr w.of_pure np⟩
    · exact w.of_fail.elim
  rw [if_neg h7] at w
  by_cases h8 : f = ("tuple" : Str)
  · subst h8
    rw [if_pos rfl] at w
    cases (PyProof.Rows.boot_tuple.symm.trans hv)
    split at w
    · obtain ⟨v, rfl, p⟩ := pl.one
      obtain ⟨a, xs, e, hx, rr⟩ := p.list
      subst e
      exact call_tuple_of pins s' σ H _ us Q I r ⟨a, xs, rfl, .inl ⟨.inl (.inl hx), fun p np => S.newT _ rr w.of_pure rfl np⟩⟩
    · obtain ⟨v, rfl, p⟩ := pl.one
      have w := w.of_pure
      rcases p with p | ⟨_, e⟩
      · obtain ⟨a, xs, e, hx, rr⟩ := Pk.tuple (.inl p)
        subst e
        exact call_tuple_of pins s' σ H _ us Q I r ⟨a, xs, rfl, .inr ⟨by rw [hK]; exact hx, postV S w p rfl⟩⟩
      · cases e.soft
    · exact w.of_fail.elim
  rw [if_neg h8] at w
  by_cases h9 : f = ("all" : Str)
  · subst h9
    rw [if_pos rfl] at w
    cases ((show bootBuiltins "all" = some (.builtin "all") by decide +kernel).symm.trans hv)
    split at w
    · obtain ⟨v, rfl, p⟩ := pl.one
      obtain ⟨a, xs, e, hx, rr⟩ := p.list
      subst e
      split at w
      · rename_i bs eb
        have e2 := bools_of rr eb
        subst e2
        exact cr_all hc pins s' σ H _ us Q I r ⟨a, bs, rfl, .inl (.inl hx), postV S w.of_pure Rp.bool rfl⟩
      · exact w.of_fail.elim
    · exact w.of_fail.elim
  rw [if_neg h9] at w
  by_cases h10 : f = ("any" : Str)
  · subst h10
    rw [if_pos rfl] at w
    cases ((show bootBuiltins "any" = some (.builtin "any") by decide +kernel).symm.trans hv)
    split at w
    · obtain ⟨v, rfl, p⟩ := pl.one
      obtain ⟨a, xs, e, hx, rr⟩ := p.list
      subst e
      split at w
      · rename_i bs eb
        have e2 := bools_of rr eb
        subst e2
        exact cr_any hc pins s' σ H _ us Q I r ⟨a, bs, rfl, .inl (.inl hx), postV S w.of_pure Rp.bool rfl⟩
      · exact w.of_fail.elim
    · exact w.of_fail.elim
  rw [if_neg h10] at w
  by_cases h11 : f = ("sorted" : Str)
  · subst h11
    rw [if_pos rfl] at w
    cases ((show bootBuiltins "sorted" = some (.builtin "sorted") by decide +kernel).symm.trans hv)
    split at w
    · obtain ⟨v, rfl, p⟩ := pl.one
      obtain ⟨a, xs, e, hx, rr⟩ := p.list
      subst e
      split at w
      · rename_i ns eb
        have e2 := ints_of rr eb
        subst e2
        refine cr_sortedI pins s' σ H _ us Q I r ⟨a, ns, rfl, .inl (.inl hx), fun ns' p hp hs np => ?_⟩
        rw [← sortI_is hp hs]
        exact S.newL _ (RpL.ints _) w.of_pure np
      · obtain ⟨h1, h2, h3, h4⟩ := srtOk_ok w.of_guard.1
        have w := w.of_guard.2.of_pure
        have hd := RpL.dp _ _ h3 rr
        rw [← hK] at hd
        exact cr_sortedD pins s' σ H _ us Q I r ⟨a, xs, _, rfl, .inl (.inl (.inl hx)), hd, h1, h2, fun d hd => by have := h4 d hd; omega, fun p np => S.newL _ (srt_rep rr) w np⟩
    · obtain ⟨v, rfl, p⟩ := pl.one
      obtain ⟨a, xs, e, hx, rr⟩ := p.tuple
      subst e
      obtain ⟨h1, h2, h3, h4⟩ := srtOk_ok w.of_guard.1
      have w := w.of_guard.2.of_pure
      have hd := RpL.dp _ _ h3 rr
      rw [← hK] at hd
      exact cr_sortedD pins s' σ H _ us Q I r ⟨a, xs, _, rfl, .inr (by rw [hK]; exact hx), hd, h1, h2, fun d hd => by have := h4 d hd; omega, fun p np => S.newL _ (srt_rep rr) w np⟩
    · exact w.of_fail.elim
  rw [if_neg h11] at w
  exact w.of_fail.elim
end
end Py

set_option Elab.async false
set_option linter.all false
set_option maxRecDepth 100000
set_option maxHeartbeats 1000000
namespace Py
open PySem PySem.Spec PyProof.Rows L2

/-- every expression's reading, where rec is the interpreter -/
def Snd (U : Wd) (k : Nat) (G : Gs) (rec : Cxt → St → Expr → M D) : Prop :=
  ∀ Γ X W, Good U k Γ X W → ∀ e, (∀ m, PE X e (tOf U W (fun σ => rec Γ σ e) (freshE G m e))) ∧ PT X e (tOfT U W (fun σ => tst (rec Γ σ) e))
def PostXE (U : Wd) (E : XK) (H : Hp) (x : Exc) (s' : DS) : Prop := ∀ cls od H', Ext U H H' → Cap U H' s' → XRep U H' x cls od → E cls od H'
/-- what a def promises -/
def spF (U : Wd) (call : Str → List D → M D) (fg : Flg) (x : Str) (n : Nat) : Sp := fun vs H Q E => vs.length = n ∧ ∃ ow s ds, Hk U ow H s ∧ ow U.cell = none ∧ RpL U ow H ds vs ∧
  Wp (call x ds) s (PostE U ow (fun d => fg.fr && isL d) H Q) (PostXE U E H)
/-- the defs are there, up to a level -/
structure FnsOk (U : Wd) (k : Nat) (G : Gs) : Prop where
  fns : ∀ x fg, G.fns x = some fg → ∃ f fd ps, U.mg x = some (.ref f) ∧ PySem.W.keepIn U.K (.ref f) = true ∧ Binds U.K fd ps [] ∧ FnOk U.P U.w U.K U.mg U.base (L2.CX U.P U.w) k f fd ps (spF U G.call fg x ps.length) ∧ ∀ ds s, ds.length ≠ ps.length → G.call x ds s = .fail

section
variable {U : Wd} {k : Nat} {Γ : Cxt} {X : Cx} {W : WX} {G : Gs} {ow : Ow} {H : Hp} {s : DS}
theorem tOf.weak {f : St → M D} {fr fr' : D → Bool} {σ : L2.St} {Q : VK} (hf : ∀ d, fr' d = true → fr d = true) (h : tOf U W f fr' σ H Q) : tOf U W f fr σ H Q := by
  obtain ⟨H0, ow0, ow, σd, s, S, w⟩ := h
  exact ⟨H0, ow0, ow, σd, s, S, w.mono (fun d s' p v H' e c r rf => p v H' e c r fun z => rf (hf d z)) fun _ _ h => h⟩
theorem PE.weak {e : Expr} {f : St → M D} {fr fr' : D → Bool} (h : PE X e (tOf U W f fr)) (hf : ∀ d, fr' d = true → fr d = true) : PE X e (tOf U W f fr') := PE.imp h fun σ H Q q => tOf.weak hf q
theorem PostX.ext {σ : L2.St} {H' : Hp} {x : Exc} {s' : DS} (h : PostX U W σ H x s') (e : Ext U H H') : PostX U W σ H' x s' := fun cls od H'' e' => h cls od H'' (e.trans e')
theorem PostE.ext {fr : D → Bool} {H' : Hp} {Q : VK} {d : D} {s' : DS} (h : PostE U ow fr H Q d s') (e : Ext U H H') : PostE U ow fr H' Q d s' := fun v H'' e' c r rf => h v H'' (e.trans e') c r fun z => by
  obtain ⟨a, u, e2, h1, h2, h3, h4⟩ := rf z
  exact ⟨a, u, e2, e.none h3 h1, h2, h3, h4⟩
theorem Good.hu (g : Good U k Γ X W) : X.A.units + 65 < cLine := by have := g.room.un; omega
/-- a step of two parts -/
theorem tOfP.step {f : St → M D} {β : Type} {kk : D → M β} {σ : L2.St} {H0 : Hp} {ow0 : Ow} {σd : St} (S : SR U H0 ow0 ow σ H σd s) {Qb : β → DS → Prop} (w : Wp (f σd >>= kk) s Qb (PostX U W σ H)) {R : VK}
    (h : ∀ d v H1 s1, Ext U H H1 → SR U H0 ow0 ow σ H1 σd s1 → Pk U ow H1 d v → Wp (kk d) s1 Qb (PostX U W σ H) → R v H1) : tOfP U W f σ H R :=
  ⟨H0, ow0, ow, σd, s, S, w.of_bind.mono (fun d s1 h1 v H1 e c p => h d v H1 s1 e (S.ext e c) p h1) fun _ _ h => h⟩
theorem tOf.step {f : St → M D} {β : Type} {kk : D → M β} {σ : L2.St} {H0 : Hp} {ow0 : Ow} {σd : St} (fr : D → Bool) (S : SR U H0 ow0 ow σ H σd s) {Qb : β → DS → Prop} (w : Wp (f σd >>= kk) s Qb (PostX U W σ H)) {R : VK}
    (h : ∀ d v H1 s1, Ext U H H1 → SR U H0 ow0 ow σ H1 σd s1 → Rp U ow H1 d v → Wp (kk d) s1 Qb (PostX U W σ H) → R v H1) : tOf U W f fr σ H R :=
  ⟨H0, ow0, ow, σd, s, S, w.of_bind.mono (fun d s1 h1 v H1 e c p _ => h d v H1 s1 e (S.ext e c) p h1) fun _ _ h => h⟩
theorem tOfT.step {f : St → M Bool} {β : Type} {kk : Bool → M β} {σ : L2.St} {H0 : Hp} {ow0 : Ow} {σd : St} (S : SR U H0 ow0 ow σ H σd s) {Qb : β → DS → Prop} (w : Wp (f σd >>= kk) s Qb (PostX U W σ H)) {R : Bool → Hp → Prop}
    (h : ∀ d H1 s1, Ext U H H1 → SR U H0 ow0 ow σ H1 σd s1 → Wp (kk d) s1 Qb (PostX U W σ H) → R d H1) : tOfT U W f σ H R :=
  ⟨H0, ow0, ow, σd, s, S, w.of_bind.mono (fun d s1 h1 H1 e c => h d H1 s1 e (S.ext e c) h1) fun _ _ h => h⟩
theorem Wp.at {α : Type} {m : M α} {Q Q' : α → DS → Prop} {E E' : Exc → DS → Prop} (h : Wp m s Q E) (hq : ∀ a s', Q a s' → Q' a s') (he : ∀ x s', E x s' → E' x s') : Wp m s Q' E' := h.mono hq he

theorem pe_bin2 (g : Good U k Γ X W) {a b : Expr} {op : Operator} {pos : Pos} {fa fb : St → M D} (ha : PE X a (tOfP U W fa)) (hb : PE X b (tOfP U W fb)) :
    PE X (.BinOp a op b pos) (tOf U W (fun σ => do let x ← fa σ; let y ← fb σ; binop op x y) isL) := by
  refine PE.imp (pe_op (or_bin g.K op) ha hb) fun σ H Q h => ?_
  obtain ⟨H0, ow0, ow, σd, s, S, w⟩ := h
  refine tOfP.step S w fun d1 v1 H1 s1 e1 S1 p1 w1 => ?_
  refine tOfP.step S1 (w1.mono (fun d s' (q : PostE U ow isL H Q d s') => q.ext e1) fun x s' (q : PostX U W σ H x s') => q.ext e1) fun d2 v2 H2 s2 e2 S2 p2 w2 => ?_
  exact ⟨ow, s2, d1, d2, S2.hk, p1.ext e2, p2, w2.mono (fun d s' (q : PostE U ow isL H1 Q d s') => q.ext e2) fun _ _ _ => trivial⟩
theorem pe_neg2 (g : Good U k Γ X W) {a : Expr} {pos : Pos} {fa : St → M D} {fr : D → Bool} (ha : PE X a (tOf U W fa fr)) :
    PE X (.UnaryOp .USub a pos) (tOf U W (fun σ => do let x ← fa σ; let i ← asInt x; pure (.int (-i))) fun _ => false) := by
  refine PE.imp (pe_un un_neg ha) fun σ H Q h => ?_
  obtain ⟨H0, ow0, ow, σd, s, S, w⟩ := h
  refine tOf.step fr S w fun d1 v1 H1 s1 e1 S1 p1 w1 => ?_
  have w1 := w1.of_bind
  unfold asInt at w1
  split at w1
  · have q := w1.of_pure.of_pure
    unfold Rp at p1
    exact ⟨_, p1, postV S1.hk (PostE.ext q e1) Rp.int rfl⟩
  · exact w1.of_fail.elim
theorem Rp.of_bool {b : Bool} {v : V} (h : Rp U ow H (.bool b) v) : v = .bl b := by unfold Rp at h; exact h
theorem asBool_wp {d : D} {Q : Bool → DS → Prop} {E : Exc → DS → Prop} (w : Wp (asBool d) s Q E) : ∃ b, d = .bool b ∧ Q b s := by
  unfold asBool at w
  split at w
  · exact ⟨_, rfl, w.of_pure⟩
  · exact w.of_fail.elim
theorem tst_wp {f : Expr → M D} {e : Expr} {Q : Bool → DS → Prop} {E : Exc → DS → Prop} (w : Wp (tst f e) s Q E) : noIf e = true ∧ Wp (f e) s (fun d s' => ∃ b, d = .bool b ∧ Q b s') E := by
  unfold tst at w
  obtain ⟨h, w⟩ := w.of_guard
  exact ⟨h, w.of_bind.mono (fun d s' h => asBool_wp h) fun _ _ h => h⟩
/-- a test read as a value -/
theorem tOf.asB {f : St → Expr → M D} {e : Expr} {fr : D → Bool} {σ : L2.St} {R : Bool → Hp → Prop} (h : tOfT U W (fun σ => tst (f σ) e) σ H R) : tOf U W (fun σ => f σ e) fr σ H (fun x H1 => ∃ c, x = .bl c ∧ R c H1) := by
  obtain ⟨H0, ow0, ow, σd, s, S, w⟩ := h
  obtain ⟨_, w⟩ := tst_wp w
  exact ⟨H0, ow0, ow, σd, s, S, w.mono (fun d s' ⟨b, hd, q⟩ v H' e c r _ => by subst hd; exact ⟨b, r.of_bool, q H' e c⟩) fun _ _ h => h⟩
theorem pe_not2 (g : Good U k Γ X W) {a : Expr} {pos : Pos} {f : St → Expr → M D} {fr : D → Bool} (ha : PE X a (tOf U W (fun σ => f σ a) fr)) :
    PE X (.UnaryOp .Not a pos) (tOf U W (fun σ => do let b ← tst (f σ) a; pure (.bool (!b))) fun _ => false) := by
  refine PE.imp (pe_not ha) fun σ H Q h => ?_
  obtain ⟨H0, ow0, ow, σd, s, S, w⟩ := h
  refine tOf.asB (R := fun c H1 => Q (.bl (!c)) H1) ?_
  exact tOfT.step S w fun b H1 s1 e1 S1 w1 => postV S1.hk (PostE.ext w1.of_pure e1) Rp.bool rfl
theorem pt_not2 (g : Good U k Γ X W) {a : Expr} {pos : Pos} {f : St → Expr → M D} (ha : PT X a (tOfT U W (fun σ => tst (f σ) a))) {F : St → Expr → M D} (hF : ∀ σ, F σ (.UnaryOp .Not a pos) = (do let b ← tst (f σ) a; pure (.bool (!b)))) :
    PT X (.UnaryOp .Not a pos) (tOfT U W (fun σ => tst (F σ) (.UnaryOp .Not a pos))) := by
  refine PT.imp (pt_not ha) fun σ H Q h => ?_
  obtain ⟨H0, ow0, ow, σd, s, S, w⟩ := h
  obtain ⟨_, w⟩ := tst_wp w
  rw [hF] at w
  refine tOfT.step S w fun b H1 s1 e1 S1 w1 => ?_
  obtain ⟨b', e, q⟩ := w1.of_pure
  cases e
  exact q H1 e1 S1.cap
/-- a test that is no if, no and .. -/
theorem pt_val2 {e : Expr} {f : St → Expr → M D} {fr : D → Bool} (he : PE X e (tOf U W (fun σ => f σ e) fr)) (hi : ∀ whole, isTrue e X.env whole = (do let v ← whole; standAt e.pos; holding [v] (truthy v))) : PT X e (tOfT U W (fun σ => tst (f σ) e)) :=
  PT.imp (pt_val he hi) fun σ H Q h => tOf.asB h
/-! and, or -/
theorem pe_andL (g : Good U k Γ X W) {f : St → Expr → M D} (ha : ∀ e, PE X e (tOf U W (fun σ => f σ e) fun _ => false)) {pos : Pos} : ∀ es : List Expr, es ≠ [] → PE X (.BoolOp .And es pos) (tOf U W (fun σ => andL (f σ) es) fun _ => false)
  | [], h => absurd rfl h
  | [e], _ => PE.imp (pe_one (ha e)) fun σ H Q h => by
    obtain ⟨H0, ow0, ow, σd, s, S, w⟩ := h
    have w : Wp (andL (f σd) [e]) s _ _ := w
    unfold andL at w
    exact ⟨H0, ow0, ow, σd, s, S, w.of_guard.2⟩
  | e :: e' :: es, _ => PE.imp (pe_and (ha e) (pe_andL g ha (e' :: es) (by simp))) fun σ H Q h => by
    obtain ⟨H0, ow0, ow, σd, s, S, w⟩ := h
    have w : Wp (andL (f σd) (e :: e' :: es)) s _ _ := w
    unfold andL at w
    refine tOf.asB (R := fun c H1 => if c = true then tOf U W (fun σ => andL (f σ) (e' :: es)) (fun _ => false) σ H1 Q else Q (.bl false) H1) (tOfT.step S w fun b H1 s1 e1 S1 w1 => ?_)
    cases b with
    | true => exact ⟨H0, ow0, ow, σd, s1, S1, w1.mono (fun d s' (q : PostE U ow _ H Q d s') => q.ext e1) fun x s' (q : PostX U W σ H x s') => q.ext e1⟩
    | false => exact postV S1.hk (PostE.ext w1.of_pure e1) Rp.bool rfl
theorem pe_orL (g : Good U k Γ X W) {f : St → Expr → M D} (ha : ∀ e, PE X e (tOf U W (fun σ => f σ e) fun _ => false)) {pos : Pos} : ∀ es : List Expr, es ≠ [] → PE X (.BoolOp .Or es pos) (tOf U W (fun σ => orL (f σ) es) fun _ => false)
  | [], h => absurd rfl h
  | [e], _ => PE.imp (pe_one (ha e)) fun σ H Q h => by
    obtain ⟨H0, ow0, ow, σd, s, S, w⟩ := h
    have w : Wp (orL (f σd) [e]) s _ _ := w
    unfold orL at w
    exact ⟨H0, ow0, ow, σd, s, S, w.of_guard.2⟩
  | e :: e' :: es, _ => PE.imp (pe_or (ha e) (pe_orL g ha (e' :: es) (by simp))) fun σ H Q h => by
    obtain ⟨H0, ow0, ow, σd, s, S, w⟩ := h
    have w : Wp (orL (f σd) (e :: e' :: es)) s _ _ := w
    unfold orL at w
    refine tOf.asB (R := fun c H1 => if c = true then Q (.bl true) H1 else tOf U W (fun σ => orL (f σ) (e' :: es)) (fun _ => false) σ H1 Q) (tOfT.step S w fun b H1 s1 e1 S1 w1 => ?_)
    cases b with
    | false => exact ⟨H0, ow0, ow, σd, s1, S1, w1.mono (fun d s' (q : PostE U ow _ H Q d s') => q.ext e1) fun x s' (q : PostX U W σ H x s') => q.ext e1⟩
    | true => exact postV S1.hk (PostE.ext w1.of_pure e1) Rp.bool rfl
/-- the same as tests -/
def tOfL (U : Wd) (W : WX) (f : St → M D) : TT := fun σ H Q => ∃ H0 ow0 ow σd s, SR U H0 ow0 ow σ H σd s ∧ Wp (f σd) s (fun d s' => ∃ b, d = .bool b ∧ ∀ H', Ext U H H' → Cap U H' s' → Q b H') (PostX U W σ H)
theorem tOfL.tst {f : St → Expr → M D} {e : Expr} {σ : L2.St} {Q : Bool → Hp → Prop} (hn : noIf e = true) (h : tOfL U W (fun σ => f σ e) σ H Q) : tOfT U W (fun σ => Py.tst (f σ) e) σ H Q := by
  obtain ⟨H0, ow0, ow, σd, s, S, w⟩ := h
  refine ⟨H0, ow0, ow, σd, s, S, ?_⟩
  show Wp (Py.tst (f σd) e) s _ _
  unfold Py.tst
  rw [if_pos hn]
  rw [Wp.bind_iff]
  exact w.mono (fun d s' ⟨b, hd, q⟩ => by subst hd; exact q) fun _ _ h => h
theorem pw_andL (g : Good U k Γ X W) {f : St → Expr → M D} (ha : ∀ e, PT X e (tOfT U W (fun σ => tst (f σ) e))) {pos : Pos} : ∀ es : List Expr, es ≠ [] → PW X (.BoolOp .And es pos) (tOfL U W (fun σ => andL (f σ) es))
  | [], h => absurd rfl h
  | [e], _ => PW.imp (pw_and1 (ha e)) fun σ H Q h => by
    obtain ⟨H0, ow0, ow, σd, s, S, w⟩ := h
    have w : Wp (andL (f σd) [e]) s _ _ := w
    unfold andL at w
    exact tOfL.tst w.of_guard.1 ⟨H0, ow0, ow, σd, s, S, w.of_guard.2⟩
  | e :: e' :: es, _ => PW.imp (pw_and (ha e) (pw_andL g ha (e' :: es) (by simp))) fun σ H Q h => by
    obtain ⟨H0, ow0, ow, σd, s, S, w⟩ := h
    have w : Wp (andL (f σd) (e :: e' :: es)) s _ _ := w
    unfold andL at w
    refine tOfT.step S w fun b H1 s1 e1 S1 w1 => ?_
    cases b with
    | true => exact ⟨H0, ow0, ow, σd, s1, S1, w1.mono (fun d s' ⟨b, hd, q⟩ => ⟨b, hd, fun H' e' => q H' (e1.trans e')⟩) fun x s' (q : PostX U W σ H x s') => q.ext e1⟩
    | false =>
      obtain ⟨b, hd, q⟩ := w1.of_pure
      cases hd
      exact q H1 e1 S1.cap
theorem pw_orL (g : Good U k Γ X W) {f : St → Expr → M D} (ha : ∀ e, PT X e (tOfT U W (fun σ => tst (f σ) e))) {pos : Pos} : ∀ es : List Expr, es ≠ [] → PW X (.BoolOp .Or es pos) (tOfL U W (fun σ => orL (f σ) es))
  | [], h => absurd rfl h
  | [e], _ => PW.imp (pw_or1 (ha e)) fun σ H Q h => by
    obtain ⟨H0, ow0, ow, σd, s, S, w⟩ := h
    have w : Wp (orL (f σd) [e]) s _ _ := w
    unfold orL at w
    exact tOfL.tst w.of_guard.1 ⟨H0, ow0, ow, σd, s, S, w.of_guard.2⟩
  | e :: e' :: es, _ => PW.imp (pw_or (ha e) (pw_orL g ha (e' :: es) (by simp))) fun σ H Q h => by
    obtain ⟨H0, ow0, ow, σd, s, S, w⟩ := h
    have w : Wp (orL (f σd) (e :: e' :: es)) s _ _ := w
    unfold orL at w
    refine tOfT.step S w fun b H1 s1 e1 S1 w1 => ?_
    cases b with
    | false => exact ⟨H0, ow0, ow, σd, s1, S1, w1.mono (fun d s' ⟨b, hd, q⟩ => ⟨b, hd, fun H' e' => q H' (e1.trans e')⟩) fun x s' (q : PostX U W σ H x s') => q.ext e1⟩
    | true =>
      obtain ⟨b, hd, q⟩ := w1.of_pure
      cases hd
      exact q H1 e1 S1.cap
/-! comparisons -/
theorem cmp_q {op : CmpOp} {dx dy : D} {x y : V} {Q : Bool → Hp → Prop} {E : Exc → DS → Prop} (hk : Hk U ow H s) (px : Pk U ow H dx x) (py : Pk U ow H dy y) (w : Wp (cmpop op dx dy) s (fun b s' => Q b H) E) : rCmp U op x y H (fun z H' => ∃ b, z = .bl b ∧ Q b H') :=
  ⟨ow, s, dx, dy, hk, px, py, w.mono (fun b _ q => ⟨b, rfl, q⟩) fun _ _ _ => trivial⟩
theorem cmpop_s {op : CmpOp} {dx dy : D} {Q : Bool → DS → Prop} {E : Exc → DS → Prop} (w : Wp (cmpop op dx dy) s Q E) : Wp (cmpop op dx dy) s (fun b s' => s' = s ∧ Q b s) E := by
  have key : ∀ x y, (eqD x y s = .fail ∨ ∃ b, eqD x y s = .ok b s) := fun x y => by
    unfold eqD
    split
    · exact .inr ⟨_, rfl⟩
    · exact .inl rfl
  have key2 : ∀ x y, (inD x y s = .fail ∨ ∃ b, inD x y s = .ok b s) := fun x y => by
    unfold inD
    split <;> (try split) <;> first | exact .inr ⟨_, rfl⟩ | exact .inl rfl
  have key3 : cmpop op dx dy s = .fail ∨ ∃ b, cmpop op dx dy s = .ok b s := by
    unfold cmpop
    split
    · exact key _ _
    · rcases key dx dy with h | ⟨b, h⟩
      · exact .inl (by show M.bind (eqD dx dy) _ s = _; unfold M.bind; rw [h])
      · exact .inr ⟨!b, by show M.bind (eqD dx dy) _ s = _; unfold M.bind; rw [h]; rfl⟩
    · exact .inr ⟨_, rfl⟩
    · split
      · exact .inr ⟨_, rfl⟩
      · exact .inl rfl
    · exact .inr ⟨_, rfl⟩
    · exact .inr ⟨_, rfl⟩
    · exact .inr ⟨_, rfl⟩
    · split <;> exact .inr ⟨_, rfl⟩
    · split <;> exact .inr ⟨_, rfl⟩
    · exact .inr ⟨_, rfl⟩
    · exact .inr ⟨_, rfl⟩
    · exact key2 _ _
    · rename_i x y
      rcases key2 dx dy with h | ⟨b, h⟩
      · exact .inl (by show M.bind (inD dx dy) _ s = _; unfold M.bind; rw [h])
      · exact .inr ⟨!b, by show M.bind (inD dx dy) _ s = _; unfold M.bind; rw [h]; rfl⟩
    · exact .inl rfl
  unfold Wp at w ⊢
  rcases key3 with h | ⟨b, h⟩
  · rw [h] at w; exact w.elim
  · rw [h] at w ⊢; exact ⟨rfl, w⟩
theorem pc_1 (g : Good U k Γ X W) {fa fb : St → M D} {a b : Expr} {op : CmpOp} {pos : Pos} (ha : PE X a (tOfP U W fa)) (hb : PE X b (tOfP U W fb)) (hm : behindInMarks op b = false) :
    PE X (.Compare a [op] [b] pos) (tOf U W (fun σ => cmp1 (fa σ) (fb σ) op) fun _ => false) ∧ PT X (.Compare a [op] [b] pos) (tOfL U W (fun σ => cmp1 (fa σ) (fb σ) op)) := by
  constructor
  · refine PE.imp (pe_cmpR (or_cmp g.K g.w g.hu op) ha hb hm) fun σ H Q h => ?_
    obtain ⟨H0, ow0, ow, σd, s, S, w⟩ := h
    refine tOfP.step S w fun d1 v1 H1 s1 e1 S1 p1 w1 => ?_
    refine tOfP.step S1 (w1.mono (fun d s' (q : PostE U ow _ H Q d s') => q.ext e1) fun x s' (q : PostX U W σ H x s') => q.ext e1) fun d2 v2 H2 s2 e2 S2 p2 w2 => ?_
    refine ⟨ow, s2, d1, d2, S2.hk, p1.ext e2, p2, (cmpop_s w2.of_bind).mono (fun b s' ⟨hs, q⟩ => ?_) fun _ _ _ => trivial⟩
    exact postV S2.hk (PostE.ext q.of_pure e2) Rp.bool rfl
  · refine PT.imp (pt_cmpR (or_cmp g.K g.w g.hu op) ha hb hm) fun σ H Q h => ?_
    obtain ⟨H0, ow0, ow, σd, s, S, w⟩ := h
    show tOfP U W fa σ H _
    refine tOfP.step S w fun d1 v1 H1 s1 e1 S1 p1 w1 => ?_
    refine tOfP.step S1 (w1.mono (fun d s' q => q) fun x s' (q : PostX U W σ H x s') => q.ext e1) fun d2 v2 H2 s2 e2 S2 p2 w2 => ?_
    refine cmp_q S2.hk (p1.ext e2) p2 ((cmpop_s w2.of_bind).mono (fun b s' ⟨hs, q⟩ => ?_) fun _ _ h => h)
    obtain ⟨b', hd, q⟩ := q.of_pure
    cases hd
    exact q H2 (e1.trans e2) S2.cap
theorem pc_2 (g : Good U k Γ X W) {fa fb fc : St → M D} {a b c : Expr} {op op' : CmpOp} {pos : Pos} (ha : PE X a (tOfP U W fa)) (hb : PE X b (tOfP U W fb)) (hc : PE X c (tOfP U W fc)) (hm : lastMarks [op, op'] [b, c] = false) :
    PE X (.Compare a [op, op'] [b, c] pos) (tOf U W (fun σ => cmp2 (fa σ) (fb σ) (fc σ) op op') fun _ => false) ∧ PT X (.Compare a [op, op'] [b, c] pos) (tOfL U W (fun σ => cmp2 (fa σ) (fb σ) (fc σ) op op')) := by
  constructor
  · refine PE.imp (pe_chain (or_cmp g.K g.w g.hu op) (or_cmp g.K g.w g.hu op') ha hb hc hm) fun σ H Q h => ?_
    obtain ⟨H0, ow0, ow, σd, s, S, w⟩ := h
    refine tOfP.step S w fun d1 v1 H1 s1 e1 S1 p1 w1 => ?_
    refine tOfP.step S1 (w1.mono (fun d s' (q : PostE U ow _ H Q d s') => q.ext e1) fun x s' (q : PostX U W σ H x s') => q.ext e1) fun d2 v2 H2 s2 e2 S2 p2 w2 => ?_
    refine ⟨ow, s2, d1, d2, S2.hk, p1.ext e2, p2, (cmpop_s w2.of_bind).mono (fun b s' ⟨hs, q⟩ => ⟨b, rfl, ?_⟩) fun _ _ _ => trivial⟩
    cases b with
    | false =>
      rw [if_neg (by decide)] at q ⊢
      exact postV S2.hk (PostE.ext q.of_pure e2) Rp.bool rfl
    | true =>
      rw [if_pos rfl] at q ⊢
      refine tOfP.step S2 (q.mono (fun d s' (q : PostE U ow _ H1 Q d s') => q.ext e2) fun x s' (q : PostX U W σ H1 x s') => q.ext e2) fun d3 v3 H3 s3 e3 S3 p3 w3 => ?_
      refine ⟨ow, s3, d2, d3, S3.hk, p2.ext e3, p3, (cmpop_s w3.of_bind).mono (fun b s' ⟨hs, q⟩ => ?_) fun _ _ _ => trivial⟩
      exact postV S3.hk (PostE.ext q.of_pure e3) Rp.bool rfl
  · refine PT.imp (pt_chain (or_cmp g.K g.w g.hu op) (or_cmp g.K g.w g.hu op') ha hb hc hm) fun σ H Q h => ?_
    obtain ⟨H0, ow0, ow, σd, s, S, w⟩ := h
    show tOfP U W fa σ H _
    refine tOfP.step S w fun d1 v1 H1 s1 e1 S1 p1 w1 => ?_
    refine tOfP.step S1 (w1.mono (fun d s' q => q) fun x s' (q : PostX U W σ H x s') => q.ext e1) fun d2 v2 H2 s2 e2 S2 p2 w2 => ?_
    refine ⟨ow, s2, d1, d2, S2.hk, p1.ext e2, p2, (cmpop_s w2.of_bind).mono (fun b s' ⟨hs, q⟩ => ⟨b, rfl, ?_⟩) fun _ _ _ => trivial⟩
    cases b with
    | false =>
      rw [if_neg (by decide)] at q ⊢
      obtain ⟨b', hd, q⟩ := q.of_pure
      cases hd
      exact ⟨_, rfl, q H2 (e1.trans e2) S2.cap⟩
    | true =>
      rw [if_pos rfl] at q ⊢
      refine tOfP.step S2 (q.mono (fun d s' q => q) fun x s' (q : PostX U W σ H1 x s') => q.ext e2) fun d3 v3 H3 s3 e3 S3 p3 w3 => ?_
      refine cmp_q S3.hk (p2.ext e3) p3 ((cmpop_s w3.of_bind).mono (fun b s' ⟨hs, q⟩ => ?_) fun _ _ h => h)
      obtain ⟨b', hd, q⟩ := q.of_pure
      cases hd
      exact q H3 ((e1.trans e2).trans e3) S3.cap
section
variable {X : Cx} {a b c d : Expr} {ta tb tc td : TE} {pos : Pos}
/-- a op b op' c op2 d -/
def tChain3 (r r' r2 : R2) (ta tb tc td : TE) : TE := fun σ H Q => ta σ H fun x H1 => tb σ H1 fun y H2 => r x y H2 fun z H3 => ∃ k, z = .bl k ∧
  (if k = true then tc σ H3 fun x2 H4 => r' y x2 H4 fun z2 H5 => ∃ k2, z2 = .bl k2 ∧ (if k2 = true then td σ H5 fun x3 H6 => r2 x2 x3 H6 Q else Q (.bl false) H5) else Q (.bl false) H3)
theorem pe_chain3 {op op' op2 : CmpOp} {r r' r2 : R2} (h1 : OpR X (compareOp op) r) (h2 : OpR X (compareOp op') r') (h3 : OpR X (compareOp op2) r2) (ha : PE X a ta) (hb : PE X b tb) (hc : PE X c tc) (hd : PE X d td)
    (hm : lastMarks [op, op', op2] [b, c, d] = false) : PE X (.Compare a [op, op', op2] [b, c, d] pos) (tChain3 r r' r2 ta tb tc td) := by
  refine ⟨fun pins st sl Hh QQ II hh => ?_⟩
  refine Compare_chain (thn (ha.run pins st sl Hh _ II hh) fun v st1 ⟨x, G1, I1, q1, w1⟩ => chain_link (thn (hb.run pins st1 sl G1 _ I1 w1) fun u st2 ⟨y, G2, I2, q2, w2⟩ =>
    thn (h1 pins st2 sl G2 x y v u _ I2 q1 q2 w2) fun dv st3 ⟨z, G3, I3, q3, k, ek, w3⟩ => ?_)) hm
  subst ek
  cases q3
  refine wpAny_truthy_bool ?_
  cases k with
  | false => exact ite_ff ⟨.bl false, G3, I3, rfl, w3⟩
  | true =>
    refine ite_tt (chain_link (thn (hc.run pins st3 sl G3 _ I3 w3) fun v2 st4 ⟨x2, G4, I4, q4, w4⟩ => thn (h2 pins st4 sl G4 y x2 u v2 _ I4 q2 q4 w4) fun dv2 st5 ⟨z2, G5, I5, q5, k2, ek2, w5⟩ => ?_))
    subst ek2
    cases q5
    refine wpAny_truthy_bool ?_
    cases k2 with
    | false => exact ite_ff ⟨.bl false, G5, I5, rfl, w5⟩
    | true => exact ite_tt (chain_last (thn (hd.run pins st5 sl G5 _ I5 w5) fun v3 st6 ⟨x3, G6, I6, q6, w6⟩ => h3 pins st6 sl G6 x2 x3 v2 v3 QQ I6 q4 q6 w6))
theorem pt_chain3 {op op' op2 : CmpOp} {r r' r2 : R2} (h1 : OpR X (compareOp op) r) (h2 : OpR X (compareOp op') r') (h3 : OpR X (compareOp op2) r2) (ha : PE X a ta) (hb : PE X b tb) (hc : PE X c tc) (hd : PE X d td)
    (hm : lastMarks [op, op', op2] [b, c, d] = false) : PT X (.Compare a [op, op', op2] [b, c, d] pos) (tTest (tChain3 r r' r2 ta tb tc td)) := by
  refine ⟨fun pins st sl Hh QQ II hh => ?_⟩
  refine isTrue_chain (thn (ha.run pins st sl Hh _ II hh) fun v st1 ⟨x, G1, I1, q1, w1⟩ => test_link (thn (hb.run pins st1 sl G1 _ I1 w1) fun u st2 ⟨y, G2, I2, q2, w2⟩ =>
    thn (h1 pins st2 sl G2 x y v u _ I2 q1 q2 w2) fun dv st3 ⟨z, G3, I3, q3, k, ek, w3⟩ => ?_)) hm
  subst ek
  cases q3
  refine wpAny_truthy_bool ?_
  cases k with
  | false =>
    obtain ⟨b1, eb, g1⟩ := w3
    cases eb
    exact ite_ff ⟨G3, I3, g1⟩
  | true =>
    refine ite_tt (test_link (thn (hc.run pins st3 sl G3 _ I3 w3) fun v2 st4 ⟨x2, G4, I4, q4, w4⟩ => thn (h2 pins st4 sl G4 y x2 u v2 _ I4 q2 q4 w4) fun dv2 st5 ⟨z2, G5, I5, q5, k2, ek2, w5⟩ => ?_))
    subst ek2
    cases q5
    refine wpAny_truthy_bool ?_
    cases k2 with
    | false =>
      obtain ⟨b1, eb, g1⟩ := w5
      cases eb
      exact ite_ff ⟨G5, I5, g1⟩
    | true =>
      refine ite_tt (test_last (thn (hd.run pins st5 sl G5 _ I5 w5) fun v3 st6 ⟨x3, G6, I6, q6, w6⟩ => thn (h3 pins st6 sl G6 x2 x3 v2 v3 _ I6 q4 q6 w6) fun dv3 st7 ⟨z3, G7, I7, q7, k3, ek3, w7⟩ => ?_))
      subst ek3
      cases q7
      exact wpAny_truthy_bool ⟨G7, I7, w7⟩
end
theorem pc_3 (g : Good U k Γ X W) {fa fb fc fd : St → M D} {a b c d : Expr} {op op' op2 : CmpOp} {pos : Pos} (ha : PE X a (tOfP U W fa)) (hb : PE X b (tOfP U W fb)) (hc : PE X c (tOfP U W fc)) (hd : PE X d (tOfP U W fd)) (hm : lastMarks [op, op', op2] [b, c, d] = false) :
    PE X (.Compare a [op, op', op2] [b, c, d] pos) (tOf U W (fun σ => cmp3 (fa σ) (fb σ) (fc σ) (fd σ) op op' op2) fun _ => false) ∧ PT X (.Compare a [op, op', op2] [b, c, d] pos) (tOfL U W (fun σ => cmp3 (fa σ) (fb σ) (fc σ) (fd σ) op op' op2)) := by
  constructor
  · refine PE.imp (pe_chain3 (or_cmp g.K g.w g.hu op) (or_cmp g.K g.w g.hu op') (or_cmp g.K g.w g.hu op2) ha hb hc hd hm) fun σ H Q h => ?_
    obtain ⟨H0, ow0, ow, σd, s, S, w⟩ := h
    refine tOfP.step S w fun d1 v1 H1 s1 e1 S1 p1 w1 => ?_
    refine tOfP.step S1 (w1.mono (fun d s' (q : PostE U ow _ H Q d s') => q.ext e1) fun x s' (q : PostX U W σ H x s') => q.ext e1) fun d2 v2 H2 s2 e2 S2 p2 w2 => ?_
    refine ⟨ow, s2, d1, d2, S2.hk, p1.ext e2, p2, (cmpop_s w2.of_bind).mono (fun b s' ⟨hs, q⟩ => ⟨b, rfl, ?_⟩) fun _ _ _ => trivial⟩
    cases b with
    | false =>
      rw [if_neg (by decide)] at q ⊢
      exact postV S2.hk (PostE.ext q.of_pure e2) Rp.bool rfl
    | true =>
      rw [if_pos rfl] at q ⊢
      refine tOfP.step S2 (q.mono (fun d s' (q : PostE U ow _ H1 Q d s') => q.ext e2) fun x s' (q : PostX U W σ H1 x s') => q.ext e2) fun d3 v3 H3 s3 e3 S3 p3 w3 => ?_
      refine ⟨ow, s3, d2, d3, S3.hk, p2.ext e3, p3, (cmpop_s w3.of_bind).mono (fun b s' ⟨hs, q⟩ => ⟨b, rfl, ?_⟩) fun _ _ _ => trivial⟩
      cases b with
      | false =>
        rw [if_neg (by decide)] at q ⊢
        exact postV S3.hk (PostE.ext q.of_pure e3) Rp.bool rfl
      | true =>
        rw [if_pos rfl] at q ⊢
        refine tOfP.step S3 (q.mono (fun d s' (q : PostE U ow _ H2 Q d s') => q.ext e3) fun x s' (q : PostX U W σ H2 x s') => q.ext e3) fun d4 v4 H4 s4 e4 S4 p4 w4 => ?_
        refine ⟨ow, s4, d3, d4, S4.hk, p3.ext e4, p4, (cmpop_s w4.of_bind).mono (fun b s' ⟨hs, q⟩ => ?_) fun _ _ _ => trivial⟩
        exact postV S4.hk (PostE.ext q.of_pure e4) Rp.bool rfl
  · refine PT.imp (pt_chain3 (or_cmp g.K g.w g.hu op) (or_cmp g.K g.w g.hu op') (or_cmp g.K g.w g.hu op2) ha hb hc hd hm) fun σ H Q h => ?_
    obtain ⟨H0, ow0, ow, σd, s, S, w⟩ := h
    show tOfP U W fa σ H _
    refine tOfP.step S w fun d1 v1 H1 s1 e1 S1 p1 w1 => ?_
    refine tOfP.step S1 (w1.mono (fun d s' q => q) fun x s' (q : PostX U W σ H x s') => q.ext e1) fun d2 v2 H2 s2 e2 S2 p2 w2 => ?_
    refine ⟨ow, s2, d1, d2, S2.hk, p1.ext e2, p2, (cmpop_s w2.of_bind).mono (fun b s' ⟨hs, q⟩ => ⟨b, rfl, ?_⟩) fun _ _ _ => trivial⟩
    cases b with
    | false =>
      rw [if_neg (by decide)] at q ⊢
      obtain ⟨b', hd, q⟩ := q.of_pure
      cases hd
      exact ⟨_, rfl, q H2 (e1.trans e2) S2.cap⟩
    | true =>
      rw [if_pos rfl] at q ⊢
      refine tOfP.step S2 (q.mono (fun d s' q => q) fun x s' (q : PostX U W σ H1 x s') => q.ext e2) fun d3 v3 H3 s3 e3 S3 p3 w3 => ?_
      refine ⟨ow, s3, d2, d3, S3.hk, p2.ext e3, p3, (cmpop_s w3.of_bind).mono (fun b s' ⟨hs, q⟩ => ⟨b, rfl, ?_⟩) fun _ _ _ => trivial⟩
      cases b with
      | false =>
        rw [if_neg (by decide)] at q ⊢
        obtain ⟨b', hd, q⟩ := q.of_pure
        cases hd
        exact ⟨_, rfl, q H3 ((e1.trans e2).trans e3) S3.cap⟩
      | true =>
        rw [if_pos rfl] at q ⊢
        refine tOfP.step S3 (q.mono (fun d s' q => q) fun x s' (q : PostX U W σ H2 x s') => q.ext e3) fun d4 v4 H4 s4 e4 S4 p4 w4 => ?_
        refine cmp_q S4.hk (p3.ext e4) p4 ((cmpop_s w4.of_bind).mono (fun b s' ⟨hs, q⟩ => ?_) fun _ _ h => h)
        obtain ⟨b', hd, q⟩ := q.of_pure
        cases hd
        exact q H4 (((e1.trans e2).trans e3).trans e4) S4.cap
end
end Py

set_option Elab.async false
set_option linter.all false
set_option maxRecDepth 100000
set_option maxHeartbeats 2000000
/-! x[::-1] of lists and of tuples -/
namespace HT
open PySem PyProof.Rows
section
variable {prog : Program} {w : World} {A : Around} {E : Value → Shared → Prop} {s : Shared}
theorem adjust_rev (n : Nat) : Builtin.Slice.sliceAdjust none none (-1) (n : Int) = ((n : Int) - 1, -1) := by
  have h1 : ((-1 : Int) < 0) := by decide
  unfold Builtin.Slice.sliceAdjust
  simp only [h1, if_true]
theorem places_rev (n : Nat) : Builtin.Slice.slicePlaces ((n : Int) - 1) (-1) (-1) = n := by
  unfold Builtin.Slice.slicePlaces
  have h1 : ¬ ((-1 : Int) > 0) := by decide
  simp only [h1, if_false]
  by_cases h : n = 0
  · subst h; decide
  · have h2 : (n : Int) - 1 > -1 := by omega
    simp only [h2, if_true, show (- -1 : Int) = 1 by decide, Int.ediv_one]
    omega
theorem sliceApplied_rev {sl : Addr} {vl vu vs : Value} {n : Nat} {Q : Int × Int × Nat → Shared → Prop} (hs : s.heap.IsSliceOf sl vl vu vs) (pl : IsPart vl none) (pu : IsPart vu none) (ps : IsPart vs (some (-1)))
    (h : Q ((n : Int) - 1, -1, n) s) : wpAny (model prog w) A (Builtin.Slice.sliceApplied (.ref sl) (pure (n : Int))) Q E s := by
  obtain ⟨os, hos, hcs, hds⟩ := id hs
  unfold Builtin.Slice.sliceApplied Builtin.Slice.sliceFields
  refine wpAny_bind (wpAny_bind (wpAny_field hos hds (x := vl) rfl (wpAny_bind (wpAny_field hos hds (x := vu) rfl (wpAny_bind (wpAny_field hos hds (x := vs) rfl (wpAny_pure ?_)))))))
  refine wpAny_bind (slicePart_ ps ?_)
  show wpAny _ _ (if ((-1 : Int) == 0) = true then _ else _) _ _ s
  rw [if_neg (by decide)]
  refine wpAny_bind (slicePart_ pl (wpAny_bind (slicePart_ pu (wpAny_bind (wpAny_pure ?_)))))
  show wpAny _ _ (match Builtin.Slice.sliceAdjust none none (-1) (n : Int) with | (lo, hi) => pure (lo, (-1 : Int), Builtin.Slice.slicePlaces lo hi (-1))) _ _ s
  rw [adjust_rev n]
  show wpAny _ _ (pure ((n : Int) - 1, (-1 : Int), Builtin.Slice.slicePlaces ((n : Int) - 1) (-1) (-1))) _ _ s
  rw [places_rev]
  exact wpAny_pure h
theorem fm_congr {α β : Type} {f g : α → Option β} : ∀ l : List α, (∀ x ∈ l, f x = g x) → l.filterMap f = l.filterMap g
  | [], _ => rfl
  | x :: l, h => by
    rw [List.filterMap_cons, List.filterMap_cons, h x (List.mem_cons_self ..), fm_congr l fun y hy => h y (List.mem_cons_of_mem _ hy)]
theorem pick_rev (xs : Array Value) : ((List.range xs.size).filterMap fun (m : Nat) => xs[((xs.size : Int) - 1 + (m : Int) * (-1)).toNat]?).toArray = xs.toList.reverse.toArray := by
  congr 1
  have e : (List.range xs.size).filterMap (fun (m : Nat) => xs[((xs.size : Int) - 1 + (m : Int) * (-1)).toNat]?) = (List.range xs.size).map (fun (m : Nat) => xs.toList.reverse[m]?.getD .none) := by
    rw [← List.filterMap_eq_map]
    apply fm_congr
    intro m hm
    have hm := List.mem_range.mp hm
    have h1 : ((xs.size : Int) - 1 + (m : Int) * (-1)).toNat = xs.size - 1 - m := by omega
    have hl : m < xs.toList.reverse.length := by rw [List.length_reverse, Array.length_toList]; exact hm
    rw [h1]
    show _ = some (xs.toList.reverse[m]?.getD Value.none)
    rw [List.getElem?_eq_getElem hl, Array.getElem?_eq_getElem (by omega)]
    simp
  rw [e]
  apply List.ext_getElem
  · simp
  · intro i h1 h2
    rw [List.getElem_map, List.getElem_range, List.getElem?_eq_getElem h2]
    rfl
theorem getItem_tuple_rev {t sl : Addr} {items : Array Value} {vl vu vs : Value} {Q : Value → Shared → Prop} (ht : IsTup s.heap t items) (hs : s.heap.IsSliceOf sl vl vu vs) (pl : IsPart vl none) (pu : IsPart vu none) (ps : IsPart vs (some (-1)))
    (h : Q (.ref s.heap.objs.size) { s with heap := s.heap.push { cls := .type "tuple", data := .seq items.toList.reverse.toArray } })
    (hsz : items.size ≤ sizeLine) : wpAny (model prog w) A (getItem (.ref t) (.ref sl)) Q E s := by
  have htake : sizeOk (.seq items.toList.reverse.toArray) := by
    show items.toList.reverse.toArray.size ≤ sizeLine
    rw [List.size_toArray, List.length_reverse, Array.length_toList]
    omega
  obtain ⟨os, hos, hcs, hds⟩ := id hs
  have hTs : s.TypeIs (.ref sl) "slice" := ⟨os, hos, hcs⟩
  unfold getItem
  try with_reducible refine wpAny_holding ?_
  first | refine wpAny_bind (wpAny_pure ?_) | skip
  refine wpAny_bind (wpAny_sequenceKey ht.typeIs (by decide) ?_)
  refine wpAny_bind (wpAny_callSpecial?_slot (name := Str.ofString "__getitem__") ht.typeIs PyProof.Rows.slot_tuple_getitem
    (wpAny_call_entry PyProof.Rows.slot_tuple_getitem ht.typeIs entry_tuple_getitem ?_ (args_tuple_getitem _ _)))
  show wpAny _ _ (Builtin.Tuple.tupleItemsOf (.ref t) >>= _) _ _ s
  refine wpAny_bind (tupleItemsOf_ ht ?_)
  refine wpAny_bind (wpAny_typeOf hTs ?_)
  rw [if_pos (by decide)]
  refine wpAny_bind (sliceApplied_rev hs pl pu ps ?_)
  have hno : ¬ (((items.size : Int) - 1 == 0 && (-1 : Int) == 1 && items.size == items.size) = true) := by
    intro q
    rw [Bool.and_eq_true, Bool.and_eq_true] at q
    exact absurd q.1.2 (by decide)
  show wpAny _ _ (if ((items.size : Int) - 1 == 0 && (-1 : Int) == 1 && items.size == items.size) = true then _ else _) _ _ s
  rw [if_neg hno, pick_rev]
  first
    | exact wpAny_bind (m := Builtin.Tuple.tupleExact _) (wpAny_newObj_type (wpAny_pure ⟨_, rfl, wpAny_pure h⟩) htake)
    | exact wpAny_bind (m := Builtin.Tuple.tupleExact _) (wpAny_newObj_type (wpAny_bind (wpAny_pure (wpAny_pure ⟨_, rfl, wpAny_pure h⟩))) htake)
    | exact wpAny_bind (wpAny_bind (m := Builtin.Tuple.tupleExact _) (wpAny_newObj_type (wpAny_pure (wpAny_pure ⟨_, rfl, wpAny_pure h⟩)) htake))
    | exact wpAny_bind (wpAny_bind (m := Builtin.Tuple.tupleExact _) (wpAny_newObj_type (wpAny_pure ⟨_, rfl, wpAny_pure h⟩) htake))
end
end HT
namespace L2
open PySem PySem.Spec PyProof.Rows
section
variable {X : Cx}
def tRevA (K : PySem.W.Frag) (te : TE) : TE := fun σ H Q => te σ H fun x H1 => ∃ a xs, x = .ref a ∧ ((SqL K H1 a xs ∧ ∀ p, H1 p = none → Q (.ref p) (upd H1 p (.lst xs.reverse))) ∨ (SqT K H1 a xs ∧ ∀ p, H1 p = none → Q (.ref p) (upd H1 p (.tup xs.reverse))))
theorem pe_revA {e : Expr} {te : TE} {k : Nat} {p1 p2 p3 pos : Pos} (he : PE X e te) : PE X (.Subscript e (.Slice none none (some (.UnaryOp .USub (.Constant (.int 1) k p1) p2)) p3) pos) (tRevA X.K te) := by
  refine ⟨fun pins s σ H Q I h => ?_⟩
  refine Subscript_ (thn (he.run pins s σ H _ I h) fun v s1 ⟨x, H1, I1, r1, q1⟩ => ?_)
  obtain ⟨a, xs, ex, q⟩ := q1
  subst ex
  cases r1
  have hst : PO X (some (.UnaryOp .USub (.Constant (.int 1) k p1) p2)) (tPart (tUn (rU fun i => .int (-i)) (tC (.int 1)))) := po_some (pe_un un_neg pe_int)
  refine wpAny_Slice (thn (po_none.run pins s1 σ H1 (fun o H2 => o = none ∧ H2 = H1) I1 ⟨rfl, rfl⟩) fun vl s2 ⟨l, H2, I2, pl, el, e2⟩ => ?_)
  subst el e2
  refine thn (po_none.run pins s2 σ H2 (fun o H3 => o = none ∧ H3 = H2) I2 ⟨rfl, rfl⟩) fun vu s3 ⟨u, H3, I3, pu, eu, e3⟩ => ?_
  subst eu e3
  refine thn (hst.run pins s3 σ H3 (fun o H4 => o = some (-1) ∧ H4 = H3) I3 ⟨1, rfl, -1, rfl, rfl, rfl⟩) fun vs s4 ⟨o, H4, I4, ps, eo, e4⟩ => ?_
  subst eo e4
  have I5 : Inv X pins σ H4 { s4 with heap := s4.heap.push { cls := .type "slice", data := .fields #[vl, vu, vs] } } := I4.kept (t' := s4.toks) fun b ob q => Heap.get?_push_of_some _ q
  rcases q with ⟨hx, q⟩ | ⟨hx, q⟩
  · obtain ⟨its, r, ht, hz⟩ := I5.list hx
    have hlen := r.length
    show wpAny (model X.prog X.w) X.A (subscriptTail e (.Slice none none (some (.UnaryOp .USub (.Constant (.int 1) k p1) p2)) p3) (.ref a) (.ref s4.heap.objs.size)) (EP X pins σ Q) X.xe { s4 with heap := s4.heap.push { cls := .type "slice", data := .fields #[vl, vu, vs] } }
    refine tail_any (ops := [.ref a, .ref s4.heap.objs.size]) ht.isList.typeIs (PySem.slot_list_getitem.lookup) ?_ (by with_unfolding_all rfl)
    refine wpAny_getItem_list_slice ht.isList (Heap.IsSliceOf.new _ vl vu vs) pl pu ps (by decide) ?_ (by rw [List.size_toArray]; omega)
    rw [PySem.W.krv_pick]
    refine ⟨.ref _, _, I5.laid (t' := s4.toks) (o := .lst xs.reverse) (fun b ob q => Heap.get?_push_of_some _ q) (Nat.le_refl _) ?_, rfl, q _ (I5.hok.fresh (Nat.le_refl _))⟩
    exact ⟨by rw [List.length_reverse]; exact hz, _, 0, r.reverse, Heap.get?_push_size _ rfl⟩
  · obtain ⟨its, r, ht, hz⟩ := I5.tuple hx
    have hlen := r.length
    show wpAny (model X.prog X.w) X.A (subscriptTail e (.Slice none none (some (.UnaryOp .USub (.Constant (.int 1) k p1) p2)) p3) (.ref a) (.ref s4.heap.objs.size)) (EP X pins σ Q) X.xe { s4 with heap := s4.heap.push { cls := .type "slice", data := .fields #[vl, vu, vs] } }
    refine tail_any (ops := [.ref a, .ref s4.heap.objs.size]) ht.typeIs (PyProof.Rows.slot_tuple_getitem.lookup) ?_ (by with_unfolding_all rfl)
    refine HT.getItem_tuple_rev ht (Heap.IsSliceOf.new _ vl vu vs) pl pu ps ?_ (by rw [List.size_toArray]; omega)
    refine ⟨.ref _, _, I5.laid (t' := s4.toks) (o := .tup xs.reverse) (fun b ob q => Heap.get?_push_of_some _ q) (Nat.le_refl _) ?_, rfl, q _ (I5.hok.fresh (Nat.le_refl _))⟩
    exact ⟨by rw [List.length_reverse]; exact hz, _, r.reverse, IsTup.new _ _⟩
end
end L2

set_option Elab.async false
set_option linter.all false
set_option maxRecDepth 100000
set_option maxHeartbeats 1000000
namespace Py
open PySem PySem.Spec PyProof.Rows L2

section
variable {U : Wd} {k : Nat} {Γ : Cxt} {X : Cx} {W : WX} {G : Gs} {ow : Ow} {H : Hp} {s : DS}
theorem pe_if2 (g : Good U k Γ X W) {c a b : Expr} {pos : Pos} {f : St → Expr → M D} {fr fra frb : D → Bool} (hc : PT X c (tOfT U W (fun σ => tst (f σ) c))) (ha : PE X a (tOf U W (fun σ => f σ a) fra)) (hb : PE X b (tOf U W (fun σ => f σ b) frb))
    (h1 : ∀ d, fr d = true → fra d = true) (h2 : ∀ d, fr d = true → frb d = true) :
    PE X (.IfExp c a b pos) (tOf U W (fun σ => do let t ← tst (f σ) c; if t = true then f σ a else f σ b) fr) := by
  refine PE.imp (pe_ifExp hc (PE.weak ha h1) (PE.weak hb h2)) fun σ H Q h => ?_
  obtain ⟨H0, ow0, ow, σd, s, S, w⟩ := h
  refine tOfT.step S w fun t H1 s1 e1 S1 w1 => ?_
  cases t with
  | true =>
    rw [if_pos rfl] at w1 ⊢
    exact ⟨H0, ow0, ow, σd, s1, S1, w1.mono (fun d s' (q : PostE U ow fr H Q d s') => q.ext e1) fun x s' (q : PostX U W σ H x s') => q.ext e1⟩
  | false =>
    rw [if_neg (by decide)] at w1 ⊢
    exact ⟨H0, ow0, ow, σd, s1, S1, w1.mono (fun d s' (q : PostE U ow fr H Q d s') => q.ext e1) fun x s' (q : PostX U W σ H x s') => q.ext e1⟩
theorem tOfA.step {f : St → M (List D)} {β : Type} {kk : List D → M β} {σ : L2.St} {H0 : Hp} {ow0 : Ow} {σd : St} (S : SR U H0 ow0 ow σ H σd s) {Qb : β → DS → Prop} (w : Wp (f σd >>= kk) s Qb (PostX U W σ H)) {R : List V → Hp → Prop}
    (h : ∀ d v H1 s1, Ext U H H1 → SR U H0 ow0 ow σ H1 σd s1 → RpL U ow H1 d v → Wp (kk d) s1 Qb (PostX U W σ H) → R v H1) : tOfA U W f σ H R :=
  ⟨H0, ow0, ow, σd, s, S, w.of_bind.mono (fun d s1 h1 v H1 e c p => h d v H1 s1 e (S.ext e c) p h1) fun _ _ h => h⟩
theorem tOfPA.step {f : St → M (List D)} {β : Type} {kk : List D → M β} {σ : L2.St} {H0 : Hp} {ow0 : Ow} {σd : St} (S : SR U H0 ow0 ow σ H σd s) {Qb : β → DS → Prop} (w : Wp (f σd >>= kk) s Qb (PostX U W σ H)) {R : List V → Hp → Prop}
    (h : ∀ d v H1 s1, Ext U H H1 → SR U H0 ow0 ow σ H1 σd s1 → PkL U ow H1 d v → Wp (kk d) s1 Qb (PostX U W σ H) → R v H1) : tOfPA U W f σ H R :=
  ⟨H0, ow0, ow, σd, s, S, w.of_bind.mono (fun d s1 h1 v H1 e c p => h d v H1 s1 e (S.ext e c) p h1) fun _ _ h => h⟩
theorem pe_tup2 (g : Good U k Γ X W) {es : List Expr} {j : Nat} {pos : Pos} {f : St → M (List D)} (ha : PA X es (tOfA U W f)) :
    PE X (.Tuple es j pos) (tOf U W (fun σ => do let ds ← f σ; if ds.length ≤ sline then pure (.tuple ds) else fail) fun _ => false) := by
  refine PE.imp (pe_tup ha) fun σ H Q h => ?_
  obtain ⟨H0, ow0, ow, σd, s, S, w⟩ := h
  refine tOfA.step S w fun ds vs H1 s1 e1 S1 p1 w1 => ?_
  obtain ⟨hl, w1⟩ := w1.of_guard
  exact ⟨by rw [← p1.length, ← sline_eq]; exact hl, fun p np => S1.hk.newT _ p1 (PostE.ext w1.of_pure e1) rfl np⟩
theorem pe_lst2 (g : Good U k Γ X W) {es : List Expr} {pos : Pos} {f : St → M (List D)} (ha : PA X es (tOfA U W f)) :
    PE X (.List es pos) (tOf U W (fun σ => do let ds ← f σ; if ds.length ≤ sline then pure (.list ds) else fail) isL) := by
  refine PE.imp (pe_lst ha) fun σ H Q h => ?_
  obtain ⟨H0, ow0, ow, σd, s, S, w⟩ := h
  refine tOfA.step S w fun ds vs H1 s1 e1 S1 p1 w1 => ?_
  obtain ⟨hl, w1⟩ := w1.of_guard
  exact ⟨by rw [← p1.length, ← sline_eq]; exact hl, fun p np => S1.hk.newL _ p1 (PostE.ext w1.of_pure e1) np⟩
theorem pe_ix2 (g : Good U k Γ X W) {a i : Expr} {pos : Pos} {fa fi : St → M D} (ha : PE X a (tOfP U W fa)) (hi : PE X i (tOfP U W fi)) (hp : PlainIx i) :
    PE X (.Subscript a i pos) (tOf U W (fun σ => do let x ← fa σ; let y ← fi σ; getD' x y) fun _ => false) := by
  refine PE.imp (pe_ix (or_ix g.K g.w g.hu) ha hi hp) fun σ H Q h => ?_
  obtain ⟨H0, ow0, ow, σd, s, S, w⟩ := h
  refine tOfP.step S w fun d1 v1 H1 s1 e1 S1 p1 w1 => ?_
  refine tOfP.step S1 (w1.mono (fun d s' (q : PostE U ow _ H Q d s') => q.ext e1) fun x s' (q : PostX U W σ H x s') => q.ext e1) fun d2 v2 H2 s2 e2 S2 p2 w2 => ?_
  exact ⟨ow, s2, d1, d2, S2.hk, p1.ext e2, p2, w2.mono (fun d s' (q : PostE U ow _ H1 Q d s') => q.ext e2) fun _ _ _ => trivial⟩
/-- a part of a slice -/
def tOfO (U : Wd) (W : WX) (f : St → M (Option Int)) : TO := fun σ H Q => ∃ H0 ow0 ow σd s, SR U H0 ow0 ow σ H σd s ∧ Wp (f σd) s (fun o s' => ∀ H', Ext U H H' → Cap U H' s' → Q o H') (PostX U W σ H)
theorem PO.imp {e : Option Expr} {t t' : TO} (h : PO X e t) (i : ∀ σ H Q, t' σ H Q → t σ H Q) : PO X e t' := by
  cases e <;> exact ⟨fun pins s σ H Q I q => h.run pins s σ H Q I (i σ H Q q)⟩
theorem po_2 {f : St → Expr → M D} (ha : ∀ e, PE X e (tOfP U W (fun σ => f σ e))) : ∀ o : Option Expr, PO X o (tOfO U W (fun σ => evO (f σ) o))
  | none => PO.imp po_none fun σ H Q h => by
    obtain ⟨H0, ow0, ow, σd, s, S, w⟩ := h
    exact w.of_pure H Ext.refl S.cap
  | some e => PO.imp (po_some (ha e)) fun σ H Q h => by
    obtain ⟨H0, ow0, ow, σd, s, S, w⟩ := h
    refine tOfP.step S w fun d1 v1 H1 s1 e1 S1 p1 w1 => ?_
    have w1 := w1.of_bind
    unfold asInt at w1
    split at w1
    · exact ⟨_, p1.int, w1.of_pure.of_pure H1 e1 S1.cap⟩
    · exact w1.of_fail.elim
theorem pe_sl2 (g : Good U k Γ X W) {a : Expr} {lo hi : Option Expr} {pos p2 : Pos} {fa : St → M D} {fl fh : St → M (Option Int)} (ha : PE X a (tOfP U W fa)) (hl : PO X lo (tOfO U W fl)) (hh : PO X hi (tOfO U W fh)) :
    PE X (.Subscript a (.Slice lo hi none p2) pos) (tOf U W (fun σ => do let x ← fa σ; let l ← fl σ; let h ← fh σ; getS x l h) isL) := by
  refine PE.imp (pe_slice (or_sl g.K) ha hl hh) fun σ H Q h => ?_
  obtain ⟨H0, ow0, ow, σd, s, S, w⟩ := h
  refine tOfP.step S w fun d1 v1 H1 s1 e1 S1 p1 w1 => ?_
  refine ⟨H0, ow0, ow, σd, s1, S1, w1.of_bind.mono (fun l s2 h2 H2 e2 c2 => ⟨H0, ow0, ow, σd, s2, S1.ext e2 c2, h2.of_bind.mono (fun u s3 h3 H3 e3 c3 => ?_) fun x s' (q : PostX U W σ H x s') => q.ext (e1.trans e2)⟩) fun x s' (q : PostX U W σ H x s') => q.ext e1⟩
  exact ⟨ow, s3, d1, ((S1.ext e2 c2).ext e3 c3).hk, (p1.ext e2).ext e3, h3.mono (fun d s' (q : PostE U ow isL H Q d s') => q.ext ((e1.trans e2).trans e3)) fun _ _ _ => trivial⟩
theorem RpL.reverse : ∀ {ds : List D} {xs : List V}, RpL U ow H ds xs → RpL U ow H ds.reverse xs.reverse
  | [], _, h => by
    unfold RpL at h
    subst h
    exact RpL.nil
  | d :: ds, _, h => by
    unfold RpL at h
    obtain ⟨x, ys, e, r, rs⟩ := h
    subst e
    rw [List.reverse_cons, List.reverse_cons]
    exact (RpL.reverse rs).append (RpL.cons r RpL.nil)
theorem isM1_eq {st : Expr} (h : isM1 st = true) : ∃ k p1 p2, st = .UnaryOp .USub (.Constant (.int 1) k p1) p2 := by
  unfold isM1 at h
  split at h
  · exact ⟨_, _, _, rfl⟩
  · cases h
theorem pe_rev2 (g : Good U k Γ X W) {a st : Expr} {pos p3 : Pos} {fa : St → M D} (ha : PE X a (tOfP U W fa)) (hm : isM1 st = true) :
    PE X (.Subscript a (.Slice none none (some st) p3) pos) (tOf U W (fun σ => do let x ← fa σ; revD x) isL) := by
  obtain ⟨j, p1, p2, rfl⟩ := isM1_eq hm
  refine PE.imp (pe_revA ha) fun σ H Q h => ?_
  obtain ⟨H0, ow0, ow, σd, s, S, w⟩ := h
  refine tOfP.step S w fun d1 v1 H1 s1 e1 S1 p1 w1 => ?_
  cases d1 with
  | list ds =>
    obtain ⟨a, xs, rfl, h1, r⟩ := p1.list
    have q : PostE U ow isL H Q (.list ds.reverse) s1 := w1.of_pure
    refine ⟨a, xs, rfl, .inl ⟨L2.SqL.of h1, fun p np => ?_⟩⟩
    have hc := S1.nocap np
    exact q (.ref p) _ (e1.trans (Ext.new np)) (S1.cap.new np) (Rp.newL r.reverse np hc (S1.noow np)) fun _ => RF.new r.reverse (e1.none hc np) np hc
  | tuple ds =>
    obtain ⟨a, xs, rfl, h1, r⟩ := p1.tuple
    have q : PostE U ow isL H Q (.tuple ds.reverse) s1 := w1.of_pure
    refine ⟨a, xs, rfl, .inr ⟨by rw [g.K]; exact h1, fun p np => ?_⟩⟩
    have hc := S1.nocap np
    exact q (.ref p) _ (e1.trans (Ext.new np)) (S1.cap.new np) (Rp.newT r.reverse np hc (S1.noow np)) fun z => nomatch z
  | _ => exact (show Wp (fail : M D) s1 _ _ from w1).of_fail.elim

/-! ### isinstance -/
theorem tyN_ok (hK : X.K = U.K) {d : D} {v : V} {n : String} (h : tyN d = some n) (p : Pk U ow H d v) : TyX X.K H v (.type n) := by
  cases d with
  | none => cases h; rw [p.none]; exact .base .non
  | bool b => cases h; rw [p.bool]; exact .base (.bl b)
  | int b => cases h; rw [p.int]; exact .base (.int b)
  | str b => cases h; rw [p.str]; exact .base (.str b)
  | list ds => cases h; obtain ⟨a, xs, e, h1, _⟩ := p.list; rw [e]; exact .base (.lst h1)
  | tuple ds =>
    cases h
    rcases p with p | ⟨_, e⟩
    · unfold Rp at p
      obtain ⟨a, xs, e, n, _⟩ := p
      rw [e]
      rcases n with n | ⟨o, its, m, hk, hc, _⟩
      · exact .base (.tup n.1)
      · exact .kTuple (by rw [hK]; exact hk) hc
    · cases e.soft
  | dict kvs => cases h
theorem kit_all : ∀ a ∈ ["NoneType", "bool", "int", "str", "tuple", "list"], ∀ b ∈ ["int", "bool", "str", "tuple", "list"], kitB a b = some (a == b || (a == "bool" && b == "int")) := by decide +kernel
theorem tyN_mem {d : D} {n : String} (h : tyN d = some n) : n ∈ ["NoneType", "bool", "int", "str", "tuple", "list"] := by
  cases d <;> cases h <;> decide
theorem isiT_ok {t : Str} {n : String} (h : isiT t = some n) : bootBuiltins t = some (.type n) ∧ n ∈ ["int", "bool", "str", "tuple", "list"] := by
  unfold isiT at h
  by_cases h1 : t = ("int" : Str)
  · subst h1; rw [if_pos rfl] at h; cases h; exact ⟨PyProof.Rows.boot_int, by decide⟩
  rw [if_neg h1] at h
  by_cases h1 : t = ("bool" : Str)
  · subst h1; rw [if_pos rfl] at h; cases h; exact ⟨PyProof.Rows.boot_bool, by decide⟩
  rw [if_neg h1] at h
  by_cases h1 : t = ("str" : Str)
  · subst h1; rw [if_pos rfl] at h; cases h; exact ⟨PyProof.Rows.boot_str, by decide⟩
  rw [if_neg h1] at h
  by_cases h1 : t = ("tuple" : Str)
  · subst h1; rw [if_pos rfl] at h; cases h; exact ⟨PyProof.Rows.boot_tuple, by decide⟩
  rw [if_neg h1] at h
  by_cases h1 : t = ("list" : Str)
  · subst h1; rw [if_pos rfl] at h; cases h; exact ⟨PyProof.Rows.boot_list, by decide⟩
  rw [if_neg h1] at h
  cases h
theorem gname_ok (g : Good U k Γ X W) (go : GlOk U k G) {x : Str} (h : okName x = true) (h2 : kindG Γ.sc x = true) (h3 : G.bare x = true) : L2.Gl X x ∧ X.mg x = none ∧ (x == ("__debug__" : Str)) = false ∧ x ≠ "__name__" := by
  obtain ⟨a, b, c⟩ := okName_d h
  exact ⟨kindG_gl g h2, by rw [g.mg]; exact go.bare x h3, a, c⟩
theorem bare_isi : bootBuiltins "isinstance" = some (.builtin "isinstance") := PyProof.Rows.boot_isinstance
theorem pe_isi2 (g : Good U k Γ X W) (go : GlOk U k G) {a : Expr} {t : Str} {p p2 pos : Pos} {fa : St → M D} (ha : PE X a (tOfP U W fa)) (hn : notStar a = true) (h1 : L2.Gl X "isinstance") (h2 : X.mg "isinstance" = none)
    (hg : gname G Γ t = true) (ht : (isiT t).isSome = true) :
    PE X (.Call (.Name "isinstance" p) [a, .Name t p2] [] pos) (tOf U W (fun σ => do
      let x ← fa σ
      match isi x t with
        | some b => pure (.bool b)
        | none => fail) fun _ => false) := by
  unfold gname at hg
  simp only [Bool.and_eq_true] at hg
  obtain ⟨k1, k2, k3, k4⟩ := gname_ok g go hg.1.1 hg.1.2 hg.2
  cases hn' : isiT t with
  | none => rw [hn'] at ht; cases ht
  | some n =>
    obtain ⟨hb, hm⟩ := isiT_ok hn'
    have pt : PE X (.Name t p2) (tC (.ty n)) := pe_bltn k1 k2 hb rfl k4 k3
    refine PE.imp (pe_callB call_isi h1 h2 bare_isi (pa_cons ha (pa_cons pt pa_nil rfl) (starEach_ns hn)) (by decide) (by decide) (starEach_ns hn) (by rfl)) fun σ H Q h => ?_
    obtain ⟨H0, ow0, ow, σd, s, S, w⟩ := h
    show tOfP U W fa σ H _
    refine tOfP.step S w fun d1 v1 H1 s1 e1 S1 p1 w1 => ?_
    unfold isi at w1
    rw [hn'] at w1
    cases hy : tyN d1 with
    | none => rw [hy] at w1; exact w1.of_fail.elim
    | some m =>
      rw [hy] at w1
      exact ⟨v1, .ty n, .type m, .type n, _, rfl, .ty n, tyN_ok g.K hy p1, kit_ty (kit_all m (tyN_mem hy) n hm), postV S1.hk (PostE.ext w1.of_pure e1) Rp.bool rfl⟩
theorem isi_both {d : D} {v : V} {t n : Str} {m : String} {b : Bool} {nn : String} (hn : isiT t = some nn) (hy : tyN d = some m) (h : isi d t = some b) : PySem.W.kitOne X.K (.type m) (.type nn) = some b := by
  unfold isi at h
  rw [hn, hy] at h
  cases h
  exact kit_ty (kit_all m (tyN_mem hy) nn (isiT_ok hn).2)
theorem pe_isiT2 (g : Good U k Γ X W) (go : GlOk U k G) {a : Expr} {t t2 : Str} {p p2 p3 p4 pos : Pos} {j : Nat} {fa : St → M D} (ha : PE X a (tOfP U W fa)) (hn : notStar a = true) (h1 : L2.Gl X "isinstance") (h2 : X.mg "isinstance" = none)
    (hg : gname G Γ t = true) (hg2 : gname G Γ t2 = true) (ht : (isiT t).isSome = true) (ht2 : (isiT t2).isSome = true) :
    PE X (.Call (.Name "isinstance" p) [a, .Tuple [.Name t p2, .Name t2 p3] j p4] [] pos) (tOf U W (fun σ => do
      let x ← fa σ
      match isi x t, isi x t2 with
        | some b, some c => pure (.bool (b || c))
        | _, _ => fail) fun _ => false) := by
  unfold gname at hg hg2
  simp only [Bool.and_eq_true] at hg hg2
  obtain ⟨k1, k2, k3, k4⟩ := gname_ok g go hg.1.1 hg.1.2 hg.2
  obtain ⟨l1, l2, l3, l4⟩ := gname_ok g go hg2.1.1 hg2.1.2 hg2.2
  obtain ⟨n, hn'⟩ := Option.isSome_iff_exists.mp ht
  obtain ⟨n2, hn2'⟩ := Option.isSome_iff_exists.mp ht2
  have pt : PE X (.Name t p2) (tC (.ty n)) := pe_bltn k1 k2 (isiT_ok hn').1 rfl k4 k3
  have pt2 : PE X (.Name t2 p3) (tC (.ty n2)) := pe_bltn l1 l2 (isiT_ok hn2').1 rfl l4 l3
  refine PE.imp (pe_callB call_isiT h1 h2 bare_isi (pa_cons ha (pa_cons (pe_tup (pa_cons pt (pa_cons pt2 pa_nil rfl) rfl)) pa_nil rfl) (starEach_ns hn)) (by decide) (by decide) (starEach_ns hn) (by rfl)) fun σ H Q h => ?_
  obtain ⟨H0, ow0, ow, σd, s, S, w⟩ := h
  show tOfP U W fa σ H _
  refine tOfP.step S w fun d1 v1 H1 s1 e1 S1 p1 w1 => ?_
  refine ⟨by show 2 ≤ sizeLine; rw [sizeLine_eq]; decide, fun q np => ?_⟩
  have ex := Ext.new (U := U) (o := .tup [.ty n, .ty n2]) np
  cases hb : isi d1 t with
  | none => rw [hb] at w1; exact w1.of_fail.elim
  | some b =>
    cases hb2 : isi d1 t2 with
    | none => rw [hb, hb2] at w1; exact w1.of_fail.elim
    | some c =>
      rw [hb, hb2] at w1
      cases hy : tyN d1 with
      | none => unfold isi at hb; rw [hy] at hb; cases hb
      | some m =>
        have z1 := isi_both (X := X) (v := v1) (n := t) hn' hy hb
        have z2 := isi_both (X := X) (v := v1) (n := t) hn2' hy hb2
        refine ⟨v1, q, [.ty n, .ty n2], .type m, [.type n, .type n2], b || c, rfl, upd_same, .cons (.ty n) (.cons (.ty n2) .nil), tyN_ok g.K hy (p1.ext ex), ?_, ?_⟩
        · unfold PySem.W.kitAny
          rw [z1]
          cases b with
          | true => rfl
          | false =>
            show PySem.W.kitAny X.K (.type m) [.type n2] = _
            unfold PySem.W.kitAny
            rw [z2]
            cases c <;> rfl
        · exact w1.of_pure _ _ (e1.trans ex) (S1.cap.new np) Rp.bool fun z => by cases z
end
end Py

set_option Elab.async false
set_option linter.all false
set_option maxRecDepth 100000
set_option maxHeartbeats 1000000
namespace Py
open PySem PySem.Spec PyProof.Rows L2
section
variable {U : Wd} {k : Nat} {Γ : Cxt} {X : Cx} {W : WX} {G : Gs} {ow : Ow} {H : Hp} {s : DS}
theorem boot_sum : bootBuiltins "sum" = some (.builtin "sum") := by decide +kernel
theorem boot_max : bootBuiltins "max" = some (.builtin "max") := by decide +kernel
theorem boot_min : bootBuiltins "min" = some (.builtin "min") := by decide +kernel
theorem boot_all : bootBuiltins "all" = some (.builtin "all") := by decide +kernel
theorem boot_any : bootBuiltins "any" = some (.builtin "any") := by decide +kernel
theorem boot_sorted : bootBuiltins "sorted" = some (.builtin "sorted") := by decide +kernel
theorem biN_ok {f : Str} (h : biN f = true) : (∃ id, bootBuiltins f = some (.builtin id)) ∨ (∃ T, bootBuiltins f = some (.type T)) := by
  have h := of_decide_eq_true h
  simp only [List.mem_cons, List.not_mem_nil, or_false] at h
  rcases h with h | h | h | h | h | h | h | h | h | h | h <;> subst h
  · exact .inl ⟨_, PySem.boot_len⟩
  · exact .inl ⟨_, boot_sum⟩
  · exact .inl ⟨_, PyProof.Rows.boot_abs⟩
  · exact .inl ⟨_, boot_max⟩
  · exact .inl ⟨_, boot_min⟩
  · exact .inr ⟨_, PyProof.Rows.boot_int⟩
  · exact .inr ⟨_, PyProof.Rows.boot_list⟩
  · exact .inr ⟨_, PyProof.Rows.boot_tuple⟩
  · exact .inl ⟨_, boot_all⟩
  · exact .inl ⟨_, boot_any⟩
  · exact .inl ⟨_, boot_sorted⟩
theorem bi_nil {f : Str} : bi f [] = fail := by
  unfold bi
  dsimp only
  simp only [ite_self]
theorem pe_bi2 (g : Good U k Γ X W) {f : Str} {args : List Expr} {p pos : Pos} {fa : St → M (List D)} (ha : PA X args (tOfPA U W fa)) (hn : noStars args = true) (h1 : L2.Gl X f) (h2 : X.mg f = none) (h3 : (f == ("__debug__" : Str)) = false) (h4 : f ≠ "__name__")
    (hb : biN f = true) (he : args = [] → ∀ σ, fa σ = pure []) :
    PE X (.Call (.Name f p) args [] pos) (tOf U W (fun σ => do let xs ← fa σ; bi f xs) fun d => frB f && isL d) := by
  cases args with
  | nil =>
    refine ⟨fun pins s' σ H Q I h => ?_⟩
    obtain ⟨H0, ow0, ow, σd, s, S, w⟩ := h
    have w : Wp (do let xs ← fa σd; bi f xs) s _ _ := w
    rw [he rfl] at w
    have w := w.of_bind.of_pure
    rw [bi_nil] at w
    exact w.of_fail.elim
  | cons a as =>
    have hs : starEach (a :: as) X.env = (false, eval a X.env) :: starEach as X.env := starEach_ns (noStars_mem hn a List.mem_cons_self)
    have hp : (backTo pos (starEach as X.env)).any (·.1) = false := plain_star fun e he => noStars_mem hn e (List.mem_cons_of_mem _ he)
    have fin : ∀ σ H Q, tOf U W (fun σ => do let xs ← fa σ; bi f xs) (fun d => frB f && isL d) σ H Q → tCB (rBi U f) (tOfPA U W fa) σ H Q := fun σ H Q h => by
      obtain ⟨H0, ow0, ow, σd, s, S, w⟩ := h
      show tOfPA U W fa σ H _
      refine tOfPA.step S w fun ds vs H1 s1 e1 S1 p1 w1 => ?_
      exact ⟨ow, s1, ds, S1.hk, p1, w1.mono (fun d s' (q : PostE U ow _ H Q d s') => q.ext e1) fun _ _ _ => trivial⟩
    have hu := g.hu
    rcases biN_ok hb with ⟨id, hv⟩ | ⟨T, hv⟩
    · exact PE.imp (pe_callB (cr_bi g.K g.calm (by omega) hv) h1 h2 hv ha h4 h3 hs hp) fin
    · exact PE.imp (pe_callTy (cr_bi g.K g.calm (by omega) hv) h1 h2 hv ha h4 h3 hs hp) fin
/-! ### defs -/
theorem flat_ow {ow' : Ow} (S : Hk U ow H s) {H' : Hp} (e : Ext U H H') (h0 : ∀ a, ow' a = none) : (∀ (d : D) (v : V), flat d = true → Rp U ow' H' d v → Rp U ow H' d v) ∧ (∀ (ds : List D) (vs : List V), flats ds = true → RpL U ow' H' ds vs → RpL U ow H' ds vs) := by
  have hd : ∀ (a : Addr) (xs : List V), a ≠ U.cap → H' a = some (.tup xs) → ow a = none := fun a xs hc ha => by
    cases ho : ow a with
    | none => rfl
    | some i =>
      obtain ⟨u, hu, ht⟩ := S.trk a (by rw [ho]; intro z; cases z)
      have := e a u hc hu
      rw [ha] at this
      exact absurd (Option.some.inj this).symm (ht xs)
  have key : ∀ n, (∀ (d : D) (v : V), sizeOf d < n → flat d = true → Rp U ow' H' d v → Rp U ow H' d v) ∧ (∀ (ds : List D) (vs : List V), sizeOf ds < n → flats ds = true → RpL U ow' H' ds vs → RpL U ow H' ds vs) := by
    intro n
    induction n with
    | zero => exact ⟨fun d v h => absurd h (by omega), fun d v h => absurd h (by omega)⟩
    | succ n ih =>
      constructor
      · intro d v hn hf h
        cases d with
        | list ds => simp [flat] at hf
        | dict ds => simp [flat] at hf
        | tuple ds =>
          have hf : flats ds = true := by simpa [flat] using hf
          unfold Rp at h ⊢
          obtain ⟨a, xs, e1, nd, r⟩ := h
          refine ⟨a, xs, e1, nd.imp (fun nd => ⟨nd.1, hd a xs nd.2.2 nd.1, nd.2.2⟩) id, ih.2 ds xs ?_ hf r⟩
          simp at hn; omega
        | _ => unfold Rp at h ⊢; exact h
      · intro ds vs hn hf h
        cases ds with
        | nil => unfold RpL at h ⊢; exact h
        | cons d ds =>
          have hf : flat d = true ∧ flats ds = true := by simpa [flats] using hf
          unfold RpL at h ⊢
          obtain ⟨x, ys, e1, h1, h2⟩ := h
          simp at hn
          exact ⟨x, ys, e1, ih.1 d x (by omega) hf.1 h1, ih.2 ds ys (by omega) hf.2 h2⟩
  exact ⟨fun d v hf h => (key (sizeOf d + 1)).1 d v (by omega) hf h, fun ds vs hf h => (key (sizeOf ds + 1)).2 ds vs (by omega) hf h⟩
theorem Pk.free {d : D} {v : V} (h : Pk U ow H d v) : Rp U (fun _ => Option.none) H d v := by
  rcases h with h | ⟨i, a, u, e2, h1, h2, h3, r⟩
  · exact Rp.mono (fun a u hc ho e => ⟨e, rfl⟩) d v h
  · rcases r with ⟨ds, xs, e1, e3, r⟩ | ⟨ds, xs, e1, e3, r⟩
    · subst e1 e2 e3
      unfold Rp
      exact ⟨a, xs, rfl, ⟨h1, rfl, h3⟩, RpL.mono (fun a u hc ho e => ⟨e, rfl⟩) ds xs r⟩
    · subst e1 e2 e3
      unfold Rp
      exact .inr ⟨a, xs, rfl, .inl ⟨h1, rfl, h3⟩, RpD.mono (fun a u hc ho e => ⟨e, rfl⟩) ds xs r⟩
theorem PkL.free : ∀ {ds : List D} {vs : List V}, PkL U ow H ds vs → RpL U (fun _ => none) H ds vs
  | [], _, h => by unfold PkL at h; unfold RpL; exact h
  | d :: ds, _, h => by
    unfold PkL at h
    obtain ⟨x, ys, e, p, r⟩ := h
    unfold RpL
    exact ⟨x, ys, e, p.free, PkL.free r⟩
theorem quiet_wp {α : Type} {m : M α} {Q : α → DS → Prop} {E : Exc → DS → Prop} (w : Wp (quiet m) s Q E) : Wp m s Q fun _ _ => False := by
  have e : quiet m s = (match m s with | Res.ok a s' => Res.ok a s' | Res.exc _ _ => Res.fail | Res.fail => Res.fail) := by
    show (match m s with | Res.ok a s' => Res.ok a s' | _ => Res.fail) = _
    cases m s <;> rfl
  unfold Wp at w ⊢
  rw [e] at w
  cases h : m s with
  | ok a s' => rw [h] at w; exact w
  | exc x s' => rw [h] at w; exact w
  | fail => rw [h] at w; exact w
/-- f(..) -/
theorem pe_defG (g : Good U k Γ X W) (gf : FnsOk U k G) {f : Str} {fg : Flg} {args : List Expr} {p pos : Pos} (hf : G.fns f = some fg) (hn : noStars args = true) (h1 : L2.Gl X f) (h3 : (f == ("__debug__" : Str)) = false) {t : TA} (ha : PA X args t) {tt : TE}
    (ht : ∀ (σ : L2.St) (H : Hp) (Q : VK) (n : Nat), (∀ ds s, ds.length ≠ n → G.call f ds s = .fail) → tt σ H Q → (if args = [] then (fun σ H R => R [] H) else t) σ H fun vs H1 => spF U G.call fg f n vs H1 Q (if args = [] then E0 else fun cls d H => W cls d σ H)) :
    PE X (.Call (.Name f p) args [] pos) tt := by
  obtain ⟨fa, fd, ps, hm, hk, hb, F, bad⟩ := gf.fns f fg hf
  have F' : FnOk X.prog X.w X.K X.mg X.base (L2.CX X.prog X.w) k fa fd ps (spF U G.call fg f ps.length) := by rw [g.P, g.w, g.K, g.mg, g.base]; exact F
  have hm' : X.mg f = some (.ref fa) := by rw [g.mg]; exact hm
  have hk' : PySem.W.keepIn X.K (.ref fa) = true := by rw [g.K]; exact hk
  have hb' : Binds X.K fd ps [] := by rw [g.K]; exact hb
  cases args with
  | nil =>
    refine PE.imp (pe_call0 (E := E0) F' g.room h1 hm' hk' hb' .nil L2.passL h3) fun σ H Q h => ?_
    have := ht σ H Q ps.length bad h
    simp only [if_true] at this
    exact this
  | cons a as =>
    have hs : starEach (a :: as) X.env = (false, eval a X.env) :: starEach as X.env := starEach_ns (noStars_mem hn a List.mem_cons_self)
    have hp : (backTo pos (starEach as X.env)).any (·.1) = false := plain_star fun e he => noStars_mem hn e (List.mem_cons_of_mem _ he)
    refine PE.imp (pe_callS (E := WE W) F' g.room h1 hm' hk' hb' (fun σ => passAt g.tk σ) ha h3 hs hp) fun σ H Q h => ?_
    have := ht σ H Q ps.length bad h
    rw [if_neg (by simp), if_neg (by simp)] at this
    exact this
theorem callQ_wp {args : List Expr} {f : Str} {xs : List D} {Q : D → DS → Prop} {E : Exc → DS → Prop} (w : Wp (callQ G f args xs) s Q E) : Wp (G.call f xs) s Q (if args = [] then (fun _ _ => False) else E) := by
  cases args with
  | nil => exact quiet_wp w
  | cons a as => rw [if_neg (by simp)]; exact w
theorem len_call {n : Nat} {f : Str} {xs : List D} {Q : D → DS → Prop} {E : Exc → DS → Prop} (bad : ∀ ds s, ds.length ≠ n → G.call f ds s = .fail) (w : Wp (G.call f xs) s Q E) : xs.length = n := by
  by_cases h : xs.length = n
  · exact h
  · unfold Wp at w
    rw [bad _ _ h] at w
    exact w.elim
theorem PkL.length : ∀ {ds : List D} {vs : List V}, PkL U ow H ds vs → ds.length = vs.length
  | [], _, h => by unfold PkL at h; rw [h]; rfl
  | d :: ds, _, h => by
    unfold PkL at h
    obtain ⟨x, ys, e, p, r⟩ := h
    rw [e, List.length_cons, List.length_cons, PkL.length r]
theorem xpost {args : List Expr} {σ : L2.St} {H1 : Hp} (e1 : Ext U H H1) {x : Exc} {s' : DS} (q : (if args = [] then (fun _ _ => False) else PostX U W σ H) x s') : PostXE U (if args = [] then E0 else fun cls d H => W cls d σ H) H1 x s' := by
  cases args with
  | nil => exact q.elim
  | cons a as =>
    rw [if_neg (by simp)] at q ⊢
    exact fun cls od H' e' => q cls od H' (e1.trans e')
/-- what is handed over is shared -/
theorem pe_defS (g : Good U k Γ X W) (gf : FnsOk U k G) {f : Str} {fg : Flg} {args : List Expr} {p pos : Pos} (hf : G.fns f = some fg) (hn : noStars args = true) (h1 : L2.Gl X f) (h3 : (f == ("__debug__" : Str)) = false) {fa : St → M (List D)} (ha : PA X args (tOfA U W fa))
    (h0 : args = [] → ∀ σ, fa σ = pure []) :
    PE X (.Call (.Name f p) args [] pos) (tOf U W (fun σ => do let xs ← fa σ; callQ G f args xs) fun d => fg.fr && isL d) := by
  refine pe_defG g gf hf hn h1 h3 ha fun σ H Q n bad h => ?_
  obtain ⟨H0, ow0, ow, σd, s, S, w⟩ := h
  have w : Wp (do let xs ← fa σd; callQ G f args xs) s _ _ := w
  have fin : ∀ ds vs H1 s1, Ext U H H1 → SR U H0 ow0 ow σ H1 σd s1 → RpL U ow H1 ds vs → Wp (callQ G f args ds) s1 (PostE U ow (fun d => fg.fr && isL d) H Q) (PostX U W σ H) → spF U G.call fg f n vs H1 Q (if args = [] then E0 else fun cls d H => W cls d σ H) := by
    intro ds vs H1 s1 e1 S1 r w1
    have w2 := callQ_wp w1
    have hl := len_call bad w2
    exact ⟨by rw [← r.length]; exact hl, ow, s1, ds, S1.hk, S1.cello, r, w2.mono (fun d s' (q : PostE U ow _ H Q d s') => q.ext e1) fun x s' q => xpost e1 q⟩
  by_cases hz : args = []
  · rw [if_pos hz]
    rw [h0 hz] at w
    exact fin [] [] H s Ext.refl S RpL.nil w.of_bind.of_pure
  · rw [if_neg hz]
    exact tOfA.step S w fun ds vs H1 s1 e1 S1 p1 w1 => fin ds vs H1 s1 e1 S1 p1 w1
/-- what is handed over is peeked at; flat data come back -/
theorem pe_defP (g : Good U k Γ X W) (gf : FnsOk U k G) {f : Str} {fg : Flg} {args : List Expr} {p pos : Pos} (hf : G.fns f = some fg) (hn : noStars args = true) (h1 : L2.Gl X f) (h3 : (f == ("__debug__" : Str)) = false) {fa : St → M (List D)} (ha : PA X args (tOfPA U W fa))
    (h0 : args = [] → ∀ σ, fa σ = pure []) :
    PE X (.Call (.Name f p) args [] pos) (tOf U W (fun σ => do let xs ← fa σ; let d ← callQ G f args xs; if flat d = true then pure d else fail) fun _ => false) := by
  refine pe_defG g gf hf hn h1 h3 ha fun σ H Q n bad h => ?_
  obtain ⟨H0, ow0, ow, σd, s, S, w⟩ := h
  have w : Wp (do let xs ← fa σd; let d ← callQ G f args xs; if flat d = true then pure d else fail) s _ _ := w
  have fin : ∀ ds vs H1 s1, Ext U H H1 → SR U H0 ow0 ow σ H1 σd s1 → PkL U ow H1 ds vs → Wp (do let d ← callQ G f args ds; if flat d = true then pure d else fail) s1 (PostE U ow (fun _ => false) H Q) (PostX U W σ H) → spF U G.call fg f n vs H1 Q (if args = [] then E0 else fun cls d H => W cls d σ H) := by
    intro ds vs H1 s1 e1 S1 r w1
    have w2 := callQ_wp w1.of_bind
    have hl := len_call bad w2
    refine ⟨by rw [← r.length]; exact hl, fun _ => none, s1, ds, ⟨fun a h => absurd rfl h, rfl, S1.cap⟩, rfl, r.free, w2.mono (fun d s' q => ?_) fun x s' q => xpost e1 q⟩
    obtain ⟨hfl, q⟩ := Wp.of_guard q
    have q := q.of_pure
    intro v H' e' c' r' _
    exact q v H' (e1.trans e') c' ((flat_ow S1.hk e' (fun _ => rfl)).1 d v hfl r') fun z => by cases z
  by_cases hz : args = []
  · rw [if_pos hz]
    rw [h0 hz] at w
    exact fin [] [] H s Ext.refl S (by unfold PkL; rfl) w.of_bind.of_pure
  · rw [if_neg hz]
    exact tOfPA.step S w fun ds vs H1 s1 e1 S1 p1 w1 => fin ds vs H1 s1 e1 S1 p1 w1
end
end Py

set_option Elab.async false
set_option linter.all false
set_option maxRecDepth 100000
set_option maxHeartbeats 1000000
namespace Py
open PySem PySem.Spec PyProof.Rows L2
section
variable {U : Wd} {k : Nat} {Γ : Cxt} {X : Cx} {W : WX} {G : Gs} {ow : Ow} {H : Hp} {s : DS}
theorem base_plain {o : Expr} (h : plainO o = true) {m : Str} {env : Env} : attributeBase o m env (eval o env) = eval o env := by
  cases o with
  | Call _ _ _ _ => cases h
  | _ => rfl
theorem RpL.strs : ∀ ys : List Str, RpL U ow H (ys.map PyData.str) (ys.map V.str)
  | [] => RpL.nil
  | y :: ys => RpL.cons Rp.str (RpL.strs ys)
theorem strs_of : ∀ {ds : List D} {ys : List Str}, strsOf ds = some ys → ds = ys.map .str
  | [], ys, h => by unfold strsOf at h; cases h; rfl
  | d :: ds, ys, h => by
    cases d with
    | str x =>
      unfold strsOf at h
      cases e : strsOf ds with
      | none => rw [e] at h; cases h
      | some zs =>
        rw [e] at h
        cases h
        rw [strs_of e]
        rfl
    | _ => unfold strsOf at h; cases h
theorem RpL.to_strs : ∀ {ys : List Str} {xs : List V}, RpL U ow H (ys.map PyData.str) xs → xs = ys.map V.str
  | [], xs, h => by
    have := h.length
    cases xs with
    | nil => rfl
    | cons _ _ => simp at this
  | y :: ys, xs, h => by
    cases xs with
    | nil => have := h.length; simp at this
    | cons x xs =>
      obtain ⟨h1, h2⟩ := h.of_cons
      unfold Rp at h1
      rw [h1, RpL.to_strs h2]
      rfl
theorem pe_meth1 (g : Good U k Γ X W) {o e : Expr} {m : Str} {apos pos : Pos} {fo fe : St → M D} (ho : PE X o (tOfP U W fo)) (he : PE X e (tOfP U W fe)) (hn : notStar e = true) (hp : plainO o = true) (hl : (apos.endLine == pos.line) = true) (hm : methN m = true) :
    PE X (.Call (.Attribute o m apos) [e] [] pos) (tOf U W (fun σ => do let x ← fo σ; methD x m (fe σ)) fun _ => false) := by
  have hs : starEach [e] X.env = [(false, eval e X.env)] := starEach_ns hn
  have main : ∀ (r : V → List V → Hp → VK → Prop), (∀ ow a dy y H Q s', Hk U ow H s' → Pk U ow H dy y → Wp (meth1 a m dy) s' (PostE U ow (fun _ => false) H Q) (fun _ _ => True) → r (.str a) [y] H Q) →
      ∀ σ H Q, tOf U W (fun σ => do let x ← fo σ; methD x m (fe σ)) (fun _ => false) σ H Q → tM1 r (tOfP U W fo) (tOfP U W fe) σ H Q := by
    intro r hr σ H Q h
    obtain ⟨H0, ow0, ow, σd, s, S, w⟩ := h
    refine tOfP.step S w fun d1 v1 H1 s1 e1 S1 p1 w1 => ?_
    unfold methD at w1
    split at w1
    · rename_i a
      have hv := p1.str
      refine ⟨⟨a, hv⟩, ?_⟩
      refine tOfP.step S1 (w1.mono (fun d s' (q : PostE U ow _ H Q d s') => q.ext e1) fun x s' (q : PostX U W σ H x s') => q.ext e1) fun d2 v2 H2 s2 e2 S2 p2 w2 => ?_
      rw [hv]
      exact hr ow a d2 v2 H2 Q s2 S2.hk p2 (w2.mono (fun d s' (q : PostE U ow _ H1 Q d s') => q.ext e2) fun _ _ _ => trivial)
    · exact w1.of_fail.elim
  by_cases h1 : m = ("split" : Str)
  · subst h1
    refine PE.imp (pe_m1 F.slot_str_split F.type_str_split mt_split ho he hs (base_plain hp) hl) (main _ fun ow a dy y H Q s' hk py w => ?_)
    unfold meth1 at w
    rw [if_pos rfl] at w
    split at w
    · obtain ⟨⟨g1, g2⟩, w⟩ := w.of_guard
      refine ⟨_, _, rfl, by rw [py.str], g1, by rw [← sline_eq]; exact g2, fun p np => ?_⟩
      exact hk.newL _ (RpL.strs _) w.of_pure np
    · exact w.of_fail.elim
  · by_cases h2 : m = ("partition" : Str)
    · subst h2
      refine PE.imp (pe_m1 F.slot_str_partition F.type_str_partition mt_partition ho he hs (base_plain hp) hl) (main _ fun ow a dy y H Q s' hk py w => ?_)
      unfold meth1 at w
      rw [if_neg (by decide), if_pos rfl] at w
      split at w
      · obtain ⟨⟨g1, g2⟩, w⟩ := w.of_guard
        refine ⟨_, _, rfl, by rw [py.str], g1, by rw [← sline_eq]; exact g2, fun p np => ?_⟩
        exact hk.newT (fun _ => false) (ds := [.str _, .str _, .str _]) (RpL.strs [_, _, _]) w.of_pure rfl np
      · exact w.of_fail.elim
    · by_cases h3 : m = ("join" : Str)
      · subst h3
        refine PE.imp (pe_m1 F.slot_str_join F.type_str_join mt_join ho he hs (base_plain hp) hl) (main _ fun ow a dy y H Q s' hk py w => ?_)
        unfold meth1 at w
        rw [if_neg (by decide), if_neg (by decide), if_pos rfl] at w
        split at w
        · rename_i ys hys
          obtain ⟨g1, w⟩ := w.of_guard
          cases dy with
          | list ds =>
            have hd := strs_of (show strsOf ds = some ys from hys)
            subst hd
            obtain ⟨p, xs, rfl, hp, hr⟩ := py.list
            have := hr.to_strs
            subst this
            exact ⟨_, _, ys, rfl, rfl, .inl (SqL.of hp), g1, postV hk w.of_pure Rp.str rfl⟩
          | tuple ds =>
            have hd := strs_of (show strsOf ds = some ys from hys)
            subst hd
            obtain ⟨p, xs, rfl, hp, hr⟩ := py.tuple
            have := hr.to_strs
            subst this
            exact ⟨_, _, ys, rfl, rfl, .inr (by rw [g.K]; exact hp), g1, postV hk w.of_pure Rp.str rfl⟩
          | _ => cases hys
        · exact w.of_fail.elim
      · exact absurd (of_decide_eq_true hm) (by simp [h1, h2, h3])
end
end Py

set_option Elab.async false
set_option linter.all false
set_option maxRecDepth 100000
set_option maxHeartbeats 1000000
namespace Py
open PySem PySem.Spec PyProof.Rows L2
set_option maxHeartbeats 1000000 in
theorem meets_enumerate_newB1 {v : Value} {o : Obj} {H : Heap → Prop} (B : Begins v o H) :
    Meets (Builtin.«enumerate.__new__» ⟨[.type "enumerate", v], []⟩) (fun _ R s => H s.heap ∧
      R (.ok (.ret (.ref (s.heap.push o).objs.size))) { s with heap := (s.heap.push o).push { cls := .type "enumerate", data := .fields #[.none, .bool false, .ref s.heap.objs.size, rawInt 0, .none, .none] } }) :=
  .of_wp fun prog w A R s h => by
    obtain ⟨hp, g, d, tk, os⟩ := s; obtain ⟨h1, h⟩ := h
    have hsub := sub_enumerate
    have q1 : ∀ {A' : Around} {E : Value → Shared → Prop} {Q : Value → Shared → Prop}, Q (.ref hp.objs.size) ⟨hp.push o, g, d, tk, os⟩ → wpAny (model prog w) A' (pyIter v) Q E ⟨hp, g, d, tk, os⟩ :=
      fun q => B.iter prog w _ _ ⟨hp, g, d, tk, os⟩ _ h1 q
    wp_walk using q1
    refine wpAny_stack_any fun st => wpAny_pure ?_
    split
    · rename_i c _ _ _ _ _
      cases (c == Value.type "enumerate")
      · wp_walk using q1
        exact ⟨_, rfl, h⟩
      · wp_walk using q1
        exact ⟨_, rfl, h⟩
    · wp_walk using q1
      exact ⟨_, rfl, h⟩
theorem enum_begins1 {prog : Program} {w : World} {A : Around} {E : Value → Shared → Prop} {s : Shared} {v : Value} {o : Obj} {H : Heap → Prop} {Q : Value → Shared → Prop} (B : Begins v o H) (h1 : H s.heap)
    (h : ∀ h', IsEnum h' (s.heap.objs.size + 1) s.heap.objs.size 0 .none → h'.get? s.heap.objs.size = some o → h'.objs.size = s.heap.objs.size + 2 →
      (∀ b o, s.heap.get? b = some o → h'.get? b = some o) → Q (.ref (s.heap.objs.size + 1)) { s with heap := h' }) :
    wpAny (model prog w) A (call (.type "enumerate") [v]) Q E s := by
  refine callType_new F.called_enumerate (by decide) (F.typeCall_enumerate_1 _) (F.newCall_enumerate_1 _) (fun obj => F.args_object_init_2 obj _) F.entry_enumerate_new
    (meets_enumerate_newB1 B) ⟨h1, ?_⟩
  have hz : (s.heap.push o).objs.size = s.heap.objs.size + 1 := Heap.size_push ..
  show _ ∧ _
  rw [hz]
  have he : IsEnum ((s.heap.push o).push { cls := .type "enumerate", data := .fields #[.none, .bool false, .ref s.heap.objs.size, rawInt 0, .none, .none] }) (s.heap.objs.size + 1) s.heap.objs.size 0 .none := by
    have := Heap.get?_push_size (s.heap.push o) (o := { cls := .type "enumerate", data := .fields #[.none, .bool false, .ref s.heap.objs.size, rawInt 0, .none, .none] }) rfl
    rw [hz] at this; exact this
  refine ⟨⟨_, he, rfl⟩, h _ he (Heap.get?_push_of_some _ (Heap.get?_push_size _ B.free)) (by rw [Heap.size_push, hz]) fun b o x => Heap.get?_push_of_some _ (Heap.get?_push_of_some _ x)⟩

/-- the list at a as it stands at each turn, each item in a new pair with a count -/
def IteFL (K : PySem.W.Frag) (k0 : Int) (a : Addr) : It :=
  ⟨fun i H => ∃ (xs : List V) (x : V), SqL K H a xs ∧ xs[i]? = some x, fun i H v H' => ∃ T x, v = .ref T ∧ H T = none ∧ H' = upd H T (.tup [.int (k0 + (i : Nat)), x]) ∧ ∀ xs, SqL K H a xs → xs[i]? = some x, fun i H => ∃ xs : List V, SqL K H a xs ∧ xs.length = i⟩
theorem turn_enumFL {P : Program} {w : World} {K : PySem.W.Frag} {elts : List Expr} {kk : Nat} {tpos : Pos} (k0 : Int) (a e it : Addr) (ha : a ≠ it) (hae : a ≠ e) :
    Turn P w K (.Tuple elts kk tpos) (IteFL K k0 a) [e, it] e (fun i h => (∃ old, IsEnum h e it (k0 + ((i : Nat) : Int)) old) ∧ h.IsListIter it a i ∧ e ≠ it) where
  mem := by simp
  obj := fun i h st b hb => by
    obtain ⟨⟨old, he⟩, ⟨o, ho, hc, hd⟩, _⟩ := st
    have e' : b = e ∨ b = it := by simpa using hb
    rcases e' with z | z
    · rw [z]; exact ⟨_, he, fun v q => nomatch q⟩
    · rw [z]; exact ⟨o, ho, fun v q => by rw [hd] at q; cases q⟩
  keep := fun i h h' st k => let ⟨⟨old, he⟩, hi, hne⟩ := st; ⟨⟨old, k e (by simp) _ he⟩, hi.at fun o q => k it (by simp) o q, hne⟩
  item := by
    intro X hP hw hK hc i pins s σ H E I hf st hg
    subst hP hw hK
    obtain ⟨⟨old, he⟩, hit, hne⟩ := st
    obtain ⟨xs, x, hq, hx⟩ := hg
    obtain ⟨its, rv, p, hz⟩ := I.list hq
    obtain ⟨u, hu, ru⟩ := rv.get hx
    have hel : e < s.heap.objs.size := Heap.lt_size he
    have hil : it < s.heap.objs.size := by obtain ⟨_, q, _⟩ := hit; exact Heap.lt_size q
    have hlt : i < its.toArray.size := by
      have := (List.getElem?_eq_some_iff.mp hu).1
      simpa using this
    have D := Draws.list (prog := X.prog) (w := X.w) (A := X.A.in1) (I.ok.hd hc) it a ha its.toArray
    have hef : e ∉ [it, a] := by
      intro z
      simp at z
      rcases z with z | z
      · exact hne z
      · exact hae z.symm
    refine wpAny_pyNext_enum_itemC D he ⟨hit, p.isList⟩ hlt hne hef fun y h' tk hy ho hit' hT hsz hk => ?_
    have eu : y = u := by
      have hu' : its.toArray[i]? = some u := by simpa using hu
      rw [hu'] at hy; exact (Option.some.inj hy).symm
    subst eu
    refine ⟨_, rfl, wpAny_letOwnedTupleGo_enum (s := { s with heap := h', toks := tk + 1 }) ho fun h'' he' sb => ?_⟩
    have hT2 : h''.get? s.heap.objs.size = some { cls := .type "tuple", data := .seq #[.int (k0 + (i : Int)) tk, y] } := (sb.2 _ (Nat.ne_of_gt hel)).trans hT
    have new : ObjOk X.prog X.w (upd H s.heap.objs.size (.tup [.int (k0 + (i : Nat)), x])) h'' s.heap.objs.size (.tup [.int (k0 + (i : Nat)), x]) :=
      ⟨by show 2 ≤ sizeLine; decide, [.int (k0 + (i : Int)) tk, y], .cons ⟨_, rfl⟩ (.cons ru .nil), ⟨_, hT2, rfl, _, rfl⟩⟩
    have I1 : Inv X pins σ (upd H s.heap.objs.size (.tup [.int (k0 + (i : Nat)), x])) { s with heap := h'', toks := tk + 1 } :=
      I.turnedNew (ch := [e, it]) (fun b ob hb q => (sb.2 b (fun z => hb (by simp [z]))).trans (hk b ob (fun z => hb (by simp [z])) (fun z => hb (by simp [z])) q)) hf (Nat.le_refl _) new
    refine ⟨.ref s.heap.objs.size, _, I1, rfl, ⟨_, x, rfl, I.hok.fresh (Nat.le_refl _), rfl, fun ys hy => by rw [I.list_inj hy hq]; exact hx⟩, ⟨⟨y, ?_⟩, hit'.1.at fun o q => (sb.2 it (Ne.symm hne)).trans q, hne⟩, fun b hb => ?_⟩
    · have e1 : k0 + ((i + 1 : Nat) : Int) = k0 + (i : Int) + 1 := by omega
      rw [e1]; exact he'
    · have hb' : b < s.heap.objs.size := by
        have e' : b = e ∨ b = it := by simpa using hb
        rcases e' with z | z
        · rw [z]; exact hel
        · rw [z]; exact hil
      rw [upd_ne (Nat.ne_of_lt hb')]
      exact (hf b hb).1
  done := by
    intro X hP hw hK hc i pins s σ H E I hf st hg
    subst hP hw hK
    obtain ⟨⟨old, he⟩, hit, hne⟩ := st
    obtain ⟨xs, hq, hx⟩ := hg
    obtain ⟨its, rv, p, hz⟩ := I.list hq
    obtain ⟨f0, f1, f2, f3, f4, f5⟩ := hf it (by simp)
    have hl := rv.length
    have hi : i = its.toArray.size := by simp; omega
    subst hi
    have D := Draws.list (prog := X.prog) (w := X.w) (A := X.A.in1) (I.ok.hd hc) it a ha its.toArray
    exact wpAny_pyNext_enum_endD D he ⟨hit, p.isList⟩ fun h' eb => ⟨rfl, I.turned (t' := s.toks) (fun b o hb q => eb b o hb q) f0 f1 f3 f4 f5⟩
  self := fun A i s Q E st h => let ⟨⟨_, he⟩, _⟩ := st; wpAny_pyIter_enum he h

theorem enum1_tailL {X : Cx} {pins : List (Addr × Obj)} {σ : L2.St} {H1 : Hp} {s1 : Shared} {elts : List Expr} {kk : Nat} {tpos : Pos} {a : Addr} {xs : List V} {R : It → Hp → Prop} (I1 : Inv X pins σ H1 s1) (hq : SqL X.K H1 a xs) (q : R (IteFL X.K 0 a) H1) :
    wpAny (model X.prog X.w) X.A (call (.type "enumerate") [.ref a]) (fun v s2 => wpAny (model X.prog X.w) X.A (pyIter v) (PIE X pins σ (.Tuple elts kk tpos) R) X.xe s2) X.xe s1 := by
  obtain ⟨its, rv, p', hz⟩ := I1.list hq
  have hal : a < s1.heap.objs.size := p'.lt
  refine enum_begins1 (begins_list a its.toArray) p'.isList fun h' he hit hsz hk => wpAny_pyIter_enum he ?_
  have I2 : Inv X pins σ H1 { s1 with heap := h' } := I1.kept (t' := s1.toks) hk
  refine ⟨s1.heap.objs.size + 1, [s1.heap.objs.size + 1, s1.heap.objs.size], _, _, H1, rfl, I2, turn_enumFL 0 a (s1.heap.objs.size + 1) s1.heap.objs.size (Nat.ne_of_lt hal) (Nat.ne_of_lt (Nat.lt_succ_of_lt hal)), ⟨⟨.none, by simpa using he⟩, ⟨_, hit, rfl, rfl⟩, Nat.succ_ne_self _⟩, fun b hb => ?_, q⟩
  have e' : b = s1.heap.objs.size + 1 ∨ b = s1.heap.objs.size := by simpa using hb
  have hle : s1.heap.objs.size ≤ b := by
    rcases e' with z | z
    · rw [z]; exact Nat.le_add_right _ _
    · rw [z]; exact Nat.le_refl _
  exact I1.fpOk hle (I1.hok.fresh hle)
theorem enum2_tailL {X : Cx} {pins : List (Addr × Obj)} {σ : L2.St} {H1 : Hp} {s1 : Shared} {elts : List Expr} {kk : Nat} {tpos : Pos} {a : Addr} {xs : List V} {k : Int} {t : Tok} {R : It → Hp → Prop} (I1 : Inv X pins σ H1 s1) (hq : SqL X.K H1 a xs) (k1 : -(2 ^ 63) ≤ k) (k2 : k < 2 ^ 63) (q : R (IteFL X.K k a) H1) :
    wpAny (model X.prog X.w) X.A (call (.type "enumerate") [.ref a, .int k t]) (fun v s2 => wpAny (model X.prog X.w) X.A (pyIter v) (PIE X pins σ (.Tuple elts kk tpos) R) X.xe s2) X.xe s1 := by
  obtain ⟨its, rv, p', hz⟩ := I1.list hq
  have hal : a < s1.heap.objs.size := p'.lt
  refine enum_begins (begins_list a its.toArray) p'.isList k1 k2 fun h' he hit hsz hk => wpAny_pyIter_enum he ?_
  have I2 : Inv X pins σ H1 { s1 with heap := h' } := I1.kept (t' := s1.toks) hk
  refine ⟨s1.heap.objs.size + 1, [s1.heap.objs.size + 1, s1.heap.objs.size], _, _, H1, rfl, I2, turn_enumFL k a (s1.heap.objs.size + 1) s1.heap.objs.size (Nat.ne_of_lt hal) (Nat.ne_of_lt (Nat.lt_succ_of_lt hal)), ⟨⟨.none, by simpa using he⟩, ⟨_, hit, rfl, rfl⟩, Nat.succ_ne_self _⟩, fun b hb => ?_, q⟩
  have e' : b = s1.heap.objs.size + 1 ∨ b = s1.heap.objs.size := by simpa using hb
  have hle : s1.heap.objs.size ≤ b := by
    rcases e' with z | z
    · rw [z]; exact Nat.le_add_right _ _
    · rw [z]; exact Nat.le_refl _
  exact I1.fpOk hle (I1.hok.fresh hle)

/-- the tuple at a as it stands at each turn, each item in a new pair with a count -/
def IteFT (K : PySem.W.Frag) (k0 : Int) (a : Addr) : It :=
  ⟨fun i H => ∃ (xs : List V) (x : V), SqT K H a xs ∧ xs[i]? = some x, fun i H v H' => ∃ T x, v = .ref T ∧ H T = none ∧ H' = upd H T (.tup [.int (k0 + (i : Nat)), x]) ∧ ∀ xs, SqT K H a xs → xs[i]? = some x, fun i H => ∃ xs : List V, SqT K H a xs ∧ xs.length = i⟩
theorem turn_enumFT {P : Program} {w : World} {K : PySem.W.Frag} {elts : List Expr} {kk : Nat} {tpos : Pos} (k0 : Int) (a e it : Addr) (ha : a ≠ it) (hae : a ≠ e) :
    Turn P w K (.Tuple elts kk tpos) (IteFT K k0 a) [e, it] e (fun i h => (∃ old, IsEnum h e it (k0 + ((i : Nat) : Int)) old) ∧ h.IsTupleIter it a i ∧ e ≠ it) where
  mem := by simp
  obj := fun i h st b hb => by
    obtain ⟨⟨old, he⟩, ⟨o, ho, hc, hd⟩, _⟩ := st
    have e' : b = e ∨ b = it := by simpa using hb
    rcases e' with z | z
    · rw [z]; exact ⟨_, he, fun v q => nomatch q⟩
    · rw [z]; exact ⟨o, ho, fun v q => by rw [hd] at q; cases q⟩
  keep := fun i h h' st k => let ⟨⟨old, he⟩, hi, hne⟩ := st; ⟨⟨old, k e (by simp) _ he⟩, hi.at fun o q => k it (by simp) o q, hne⟩
  item := by
    intro X hP hw hK hc i pins s σ H E I hf st hg
    subst hP hw hK
    obtain ⟨⟨old, he⟩, hit, hne⟩ := st
    obtain ⟨xs, x, hq, hx⟩ := hg
    obtain ⟨its, rv, p, hz⟩ := I.tuple hq
    obtain ⟨u, hu, ru⟩ := rv.get hx
    have hel : e < s.heap.objs.size := Heap.lt_size he
    have hil : it < s.heap.objs.size := by obtain ⟨_, q, _⟩ := hit; exact Heap.lt_size q
    have hlt : i < its.toArray.size := by
      have := (List.getElem?_eq_some_iff.mp hu).1
      simpa using this
    have D := Draws.tuple (prog := X.prog) (w := X.w) (A := X.A.in1) (I.ok.hd hc) it a ha its.toArray
    have hef : e ∉ [it, a] := by
      intro z
      simp at z
      rcases z with z | z
      · exact hne z
      · exact hae z.symm
    refine wpAny_pyNext_enum_itemC D he ⟨hit, p⟩ hlt hne hef fun y h' tk hy ho hit' hT hsz hk => ?_
    have eu : y = u := by
      have hu' : its.toArray[i]? = some u := by simpa using hu
      rw [hu'] at hy; exact (Option.some.inj hy).symm
    subst eu
    refine ⟨_, rfl, wpAny_letOwnedTupleGo_enum (s := { s with heap := h', toks := tk + 1 }) ho fun h'' he' sb => ?_⟩
    have hT2 : h''.get? s.heap.objs.size = some { cls := .type "tuple", data := .seq #[.int (k0 + (i : Int)) tk, y] } := (sb.2 _ (Nat.ne_of_gt hel)).trans hT
    have new : ObjOk X.prog X.w (upd H s.heap.objs.size (.tup [.int (k0 + (i : Nat)), x])) h'' s.heap.objs.size (.tup [.int (k0 + (i : Nat)), x]) :=
      ⟨by show 2 ≤ sizeLine; decide, [.int (k0 + (i : Int)) tk, y], .cons ⟨_, rfl⟩ (.cons ru .nil), ⟨_, hT2, rfl, _, rfl⟩⟩
    have I1 : Inv X pins σ (upd H s.heap.objs.size (.tup [.int (k0 + (i : Nat)), x])) { s with heap := h'', toks := tk + 1 } :=
      I.turnedNew (ch := [e, it]) (fun b ob hb q => (sb.2 b (fun z => hb (by simp [z]))).trans (hk b ob (fun z => hb (by simp [z])) (fun z => hb (by simp [z])) q)) hf (Nat.le_refl _) new
    refine ⟨.ref s.heap.objs.size, _, I1, rfl, ⟨_, x, rfl, I.hok.fresh (Nat.le_refl _), rfl, fun ys hy => by rw [I.tuple_inj hy hq]; exact hx⟩, ⟨⟨y, ?_⟩, hit'.1.at fun o q => (sb.2 it (Ne.symm hne)).trans q, hne⟩, fun b hb => ?_⟩
    · have e1 : k0 + ((i + 1 : Nat) : Int) = k0 + (i : Int) + 1 := by omega
      rw [e1]; exact he'
    · have hb' : b < s.heap.objs.size := by
        have e' : b = e ∨ b = it := by simpa using hb
        rcases e' with z | z
        · rw [z]; exact hel
        · rw [z]; exact hil
      rw [upd_ne (Nat.ne_of_lt hb')]
      exact (hf b hb).1
  done := by
    intro X hP hw hK hc i pins s σ H E I hf st hg
    subst hP hw hK
    obtain ⟨⟨old, he⟩, hit, hne⟩ := st
    obtain ⟨xs, hq, hx⟩ := hg
    obtain ⟨its, rv, p, hz⟩ := I.tuple hq
    obtain ⟨f0, f1, f2, f3, f4, f5⟩ := hf it (by simp)
    have hl := rv.length
    have hi : i = its.toArray.size := by simp; omega
    subst hi
    have D := Draws.tuple (prog := X.prog) (w := X.w) (A := X.A.in1) (I.ok.hd hc) it a ha its.toArray
    exact wpAny_pyNext_enum_endD D he ⟨hit, p⟩ fun h' eb => ⟨rfl, I.turned (t' := s.toks) (fun b o hb q => eb b o hb q) f0 f1 f3 f4 f5⟩
  self := fun A i s Q E st h => let ⟨⟨_, he⟩, _⟩ := st; wpAny_pyIter_enum he h

theorem enum1_tailT {X : Cx} {pins : List (Addr × Obj)} {σ : L2.St} {H1 : Hp} {s1 : Shared} {elts : List Expr} {kk : Nat} {tpos : Pos} {a : Addr} {xs : List V} {R : It → Hp → Prop} (I1 : Inv X pins σ H1 s1) (hq : SqT X.K H1 a xs) (q : R (IteFT X.K 0 a) H1) :
    wpAny (model X.prog X.w) X.A (call (.type "enumerate") [.ref a]) (fun v s2 => wpAny (model X.prog X.w) X.A (pyIter v) (PIE X pins σ (.Tuple elts kk tpos) R) X.xe s2) X.xe s1 := by
  obtain ⟨its, rv, p', hz⟩ := I1.tuple hq
  have hal : a < s1.heap.objs.size := (by obtain ⟨o, ho, _⟩ := p'; exact Heap.lt_size ho)
  refine enum_begins1 (begins_tuple a its.toArray) p' fun h' he hit hsz hk => wpAny_pyIter_enum he ?_
  have I2 : Inv X pins σ H1 { s1 with heap := h' } := I1.kept (t' := s1.toks) hk
  refine ⟨s1.heap.objs.size + 1, [s1.heap.objs.size + 1, s1.heap.objs.size], _, _, H1, rfl, I2, turn_enumFT 0 a (s1.heap.objs.size + 1) s1.heap.objs.size (Nat.ne_of_lt hal) (Nat.ne_of_lt (Nat.lt_succ_of_lt hal)), ⟨⟨.none, by simpa using he⟩, ⟨_, hit, rfl, rfl⟩, Nat.succ_ne_self _⟩, fun b hb => ?_, q⟩
  have e' : b = s1.heap.objs.size + 1 ∨ b = s1.heap.objs.size := by simpa using hb
  have hle : s1.heap.objs.size ≤ b := by
    rcases e' with z | z
    · rw [z]; exact Nat.le_add_right _ _
    · rw [z]; exact Nat.le_refl _
  exact I1.fpOk hle (I1.hok.fresh hle)
theorem enum2_tailT {X : Cx} {pins : List (Addr × Obj)} {σ : L2.St} {H1 : Hp} {s1 : Shared} {elts : List Expr} {kk : Nat} {tpos : Pos} {a : Addr} {xs : List V} {k : Int} {t : Tok} {R : It → Hp → Prop} (I1 : Inv X pins σ H1 s1) (hq : SqT X.K H1 a xs) (k1 : -(2 ^ 63) ≤ k) (k2 : k < 2 ^ 63) (q : R (IteFT X.K k a) H1) :
    wpAny (model X.prog X.w) X.A (call (.type "enumerate") [.ref a, .int k t]) (fun v s2 => wpAny (model X.prog X.w) X.A (pyIter v) (PIE X pins σ (.Tuple elts kk tpos) R) X.xe s2) X.xe s1 := by
  obtain ⟨its, rv, p', hz⟩ := I1.tuple hq
  have hal : a < s1.heap.objs.size := (by obtain ⟨o, ho, _⟩ := p'; exact Heap.lt_size ho)
  refine enum_begins (begins_tuple a its.toArray) p' k1 k2 fun h' he hit hsz hk => wpAny_pyIter_enum he ?_
  have I2 : Inv X pins σ H1 { s1 with heap := h' } := I1.kept (t' := s1.toks) hk
  refine ⟨s1.heap.objs.size + 1, [s1.heap.objs.size + 1, s1.heap.objs.size], _, _, H1, rfl, I2, turn_enumFT k a (s1.heap.objs.size + 1) s1.heap.objs.size (Nat.ne_of_lt hal) (Nat.ne_of_lt (Nat.lt_succ_of_lt hal)), ⟨⟨.none, by simpa using he⟩, ⟨_, hit, rfl, rfl⟩, Nat.succ_ne_self _⟩, fun b hb => ?_, q⟩
  have e' : b = s1.heap.objs.size + 1 ∨ b = s1.heap.objs.size := by simpa using hb
  have hle : s1.heap.objs.size ≤ b := by
    rcases e' with z | z
    · rw [z]; exact Nat.le_add_right _ _
    · rw [z]; exact Nat.le_refl _
  exact I1.fpOk hle (I1.hok.fresh hle)

def iEnum1 (K : PySem.W.Frag) (ta : TA) : TI := fun σ H R => ta σ H fun vs H1 => ∃ a xs, vs = [.ref a] ∧ ((SqL K H1 a xs ∧ R (IteFL K 0 a) H1) ∨ (SqT K H1 a xs ∧ R (IteFT K 0 a) H1))
theorem pi_enum1 {X : Cx} {e : Expr} {ta : TA} {p pos tpos : Pos} {elts : List Expr} {kk : Nat} (hg : L2.Gl X "enumerate") (hm : X.mg "enumerate" = none) (ha : PA X [e] ta)
    (hs : starEach [e] X.env = (false, eval e X.env) :: starEach [] X.env) (hpl : (backTo pos (starEach [] X.env)).any (·.1) = false) :
    PI X (.Tuple elts kk tpos) (.Call (.Name "enumerate" p) [e] [] pos) (iEnum1 X.K ta) := by
  refine ⟨fun pins s σ H R I h => ?_⟩
  refine Call_ (ld_blt I hg hm boot_enumerate (PyProof.Rows.callWith_type1 (thn (ha.run pos pins s σ H _ I h) fun us s1 ⟨vs, H1, I1, r1, q1⟩ => ?_) hs hpl))
  obtain ⟨a, xs, ex, q⟩ := q1
  subst ex
  cases r1 with
  | cons r rr =>
    cases rr
    cases r
    rcases q with ⟨hq, q⟩ | ⟨hq, q⟩
    · exact enum1_tailL I1 hq q
    · exact enum1_tailT I1 hq q
def iEnum2 (K : PySem.W.Frag) (ta : TA) : TI := fun σ H R => ta σ H fun vs H1 => ∃ a xs k, vs = [.ref a, .int k] ∧ -(2 ^ 63) ≤ k ∧ k < 2 ^ 63 ∧ ((SqL K H1 a xs ∧ R (IteFL K k a) H1) ∨ (SqT K H1 a xs ∧ R (IteFT K k a) H1))
theorem pi_enum2 {X : Cx} {e e2 : Expr} {ta : TA} {p pos tpos : Pos} {elts : List Expr} {kk : Nat} (hg : L2.Gl X "enumerate") (hm : X.mg "enumerate" = none) (ha : PA X [e, e2] ta)
    (hs : starEach [e, e2] X.env = (false, eval e X.env) :: starEach [e2] X.env) (hpl : (backTo pos (starEach [e2] X.env)).any (·.1) = false) :
    PI X (.Tuple elts kk tpos) (.Call (.Name "enumerate" p) [e, e2] [] pos) (iEnum2 X.K ta) := by
  refine ⟨fun pins s σ H R I h => ?_⟩
  refine Call_ (ld_blt I hg hm boot_enumerate (PyProof.Rows.callWith_type1 (thn (ha.run pos pins s σ H _ I h) fun us s1 ⟨vs, H1, I1, r1, q1⟩ => ?_) hs hpl))
  obtain ⟨a, xs, k, ex, k1, k2, q⟩ := q1
  subst ex
  cases r1 with
  | cons r rr =>
    cases rr with
    | cons r' rr =>
      cases rr
      cases r
      obtain ⟨t, rfl⟩ := r'
      rcases q with ⟨hq, q⟩ | ⟨hq, q⟩
      · exact enum2_tailL I1 hq k1 k2 q
      · exact enum2_tailT I1 hq k1 k2 q

/-! ### what is walked, by data -/
/-- J hands on these data, as long as Rl -/
def ItOk (U : Wd) (Rl : Ow → Hp → Prop) (J : It) (items : List D) : Prop := ∀ ow' H2 s', Rl ow' H2 → Hk U ow' H2 s' →
  (∀ (i : Nat) d, items[i]? = some d → J.go i H2 ∧ ∀ x H3, J.yld i H2 x H3 → Ext U H2 H3 ∧ Cap U H3 s' ∧ Rp U ow' H3 d x) ∧ J.stop items.length H2
def tOfI (U : Wd) (W : WX) (f : St → M (List D)) (Rl : Ow → Hp → Ow → Hp → Prop) : TI := fun σ H R => ∃ H0 ow0 ow σd s, SR U H0 ow0 ow σ H σd s ∧
  Wp (f σd) s (fun items s' => ∀ J H', Ext U H H' → Cap U H' s' → ItOk U (Rl ow H') J items → R J H') (PostX U W σ H)
def tOfQ (U : Wd) (W : WX) (Src : Ow → Hp → D → V → Prop) (f : St → M D) : TE := fun σ H Q => ∃ H0 ow0 ow σd s, SR U H0 ow0 ow σ H σd s ∧
  Wp (f σd) s (fun d s' => ∀ v H', Ext U H H' → Cap U H' s' → Src ow H' d v → Q v H') (PostX U W σ H)
/-- a source that stays, as long as Rl -/
structure SrcOk (U : Wd) (Rl : Ow → Hp → Ow → Hp → Prop) (Src : Ow → Hp → D → V → Prop) : Prop where
  pk : ∀ ow H d v, Src ow H d v → Pk U ow H d v
  ext : ∀ ow H H' d v, Ext U H H' → Src ow H d v → Src ow H' d v
  lst : ∀ ow H ds v, Src ow H (.list ds) v → ∃ a xs, v = .ref a ∧ H a = some (.lst xs) ∧ ∀ ow' H2, Rl ow H ow' H2 → H2 a = some (.lst xs) ∧ RpL U ow' H2 ds xs
  tup : ∀ ow H ds v, Src ow H (.tuple ds) v → ∃ a xs, v = .ref a ∧ SqT U.K H a xs ∧ ∀ ow' H2, Rl ow H ow' H2 → SqT U.K H2 a xs ∧ RpL U ow' H2 ds xs
  self : ∀ ow H, Rl ow H ow H
def RlE (U : Wd) : Ow → Hp → Ow → Hp → Prop := fun ow H ow' H2 => (∀ a u, H a = some u → ow' a = ow a) ∧ Ext U H H2
theorem RlE.keep {U : Wd} {ow ow' : Ow} {H H2 : Hp} (h : RlE U ow H ow' H2) : Keep U ow ow' H H2 := fun a u hc ho e => ⟨h.2 a u hc e, by rw [h.1 a u e]; exact ho⟩
def RlK (U : Wd) : Ow → Hp → Ow → Hp → Prop := fun ow H ow' H2 => Keep U ow ow' H H2
theorem srcE (U : Wd) : SrcOk U (RlE U) (Pk U) where
  pk := fun _ _ _ _ h => h
  ext := fun _ _ _ _ _ e h => h.ext e
  lst := fun ow H ds v h => by
    rcases h with h | ⟨i, a, u, e2, h1, h2, h3, r⟩
    · unfold Rp at h
      obtain ⟨a, xs, e, n, r⟩ := h
      exact ⟨a, xs, e, n.1, fun ow' H2 h => ⟨h.2 a _ n.2.2 n.1, RpL.mono (RlE.keep h) ds xs r⟩⟩
    · obtain ⟨xs, eu, r2⟩ := r.list
      subst eu
      exact ⟨a, xs, e2, h1, fun ow' H2 h => ⟨h.2 a _ h3 h1, RpL.mono (RlE.keep h) ds xs r2⟩⟩
  tup := fun ow H ds v h => by
    rcases h with h | ⟨i, h⟩
    · unfold Rp at h
      obtain ⟨a, xs, e, n, r⟩ := h
      refine ⟨a, xs, e, n.elim (fun n => .inl (.inl n.1)) (fun n => .inr n), fun ow' H2 h => ?_⟩
      exact ⟨n.elim (fun n => .inl (.inl (h.2 a _ n.2.2 n.1))) (fun n => .inr n), RpL.mono (RlE.keep h) ds xs r⟩
    · cases h.soft
  self := fun _ _ => ⟨fun _ _ _ => rfl, Ext.refl⟩
theorem srcK (U : Wd) : SrcOk U (RlK U) (Rp U) where
  pk := fun _ _ _ _ h => .inl h
  ext := fun _ _ _ _ _ e h => h.ext e
  lst := fun ow H ds v h => by
    unfold Rp at h
    obtain ⟨a, xs, e, n, r⟩ := h
    exact ⟨a, xs, e, n.1, fun ow' H2 k => ⟨(k a _ n.2.2 n.2.1 n.1).1, RpL.mono k ds xs r⟩⟩
  tup := fun ow H ds v h => by
    unfold Rp at h
    obtain ⟨a, xs, e, n, r⟩ := h
    exact ⟨a, xs, e, n.elim (fun n => .inl (.inl n.1)) (fun n => .inr n), fun ow' H2 k => ⟨n.elim (fun n => .inl (.inl (k a _ n.2.2 n.2.1 n.1).1)) (fun n => .inr n), RpL.mono k ds xs r⟩⟩
  self := fun _ _ => fun _ _ _ ho h => ⟨h, ho⟩
theorem PI.imp {X : Cx} {tg e : Expr} {t t' : TI} (h : PI X tg e t) (i : ∀ σ H R, t' σ H R → t σ H R) : PI X tg e t' := ⟨fun pins s σ H R I q => h.run pins s σ H R I (i σ H R q)⟩
section
variable {U : Wd} {k : Nat} {Γ : Cxt} {X : Cx} {W : WX} {G : Gs} {ow : Ow} {H : Hp} {s : DS} {Rl : Ow → Hp → Ow → Hp → Prop} {Src : Ow → Hp → D → V → Prop}
theorem item_get {ds : List D} {xs : List V} {i : Nat} {d : D} {x : V} (r : RpL U ow H ds xs) (hd : ds[i]? = some d) (hx : xs[i]? = some x) : Rp U ow H d x := by
  obtain ⟨y, h1, h2⟩ := r.get hd
  rw [hx] at h1
  cases h1
  exact h2
theorem len_get {ds : List D} {xs : List V} {i : Nat} {d : D} (r : RpL U ow H ds xs) (hd : ds[i]? = some d) : ∃ x, xs[i]? = some x := by
  obtain ⟨y, h1, h2⟩ := r.get hd
  exact ⟨y, h1⟩
theorem it_list (hK : X.K = U.K) {a : Addr} {xs : List V} {ds : List D} (h : ∀ ow' H2, Rl ow H ow' H2 → H2 a = some (.lst xs) ∧ RpL U ow' H2 ds xs) : ItOk U (Rl ow H) (Itl X.K a) ds := by
  intro ow' H2 s' hr hk
  obtain ⟨h1, r⟩ := h ow' H2 hr
  refine ⟨fun i d hd => ?_, ⟨xs, .inl (.inl h1), by rw [r.length]; exact Nat.le_refl _⟩⟩
  obtain ⟨x, hx⟩ := len_get r hd
  refine ⟨⟨xs, x, .inl (.inl h1), hx⟩, fun y H3 ⟨e, hy⟩ => ?_⟩
  subst e
  have := hy xs (.inl (.inl h1))
  exact ⟨Ext.refl, hk.cap, item_get r hd this⟩
theorem it_tup (hK : X.K = U.K) {a : Addr} {xs : List V} {ds : List D} (h : ∀ ow' H2, Rl ow H ow' H2 → SqT U.K H2 a xs ∧ RpL U ow' H2 ds xs) : ItOk U (Rl ow H) (Itt X.K a) ds := by
  intro ow' H2 s' hr hk
  obtain ⟨h1, r⟩ := h ow' H2 hr
  rw [← hK] at h1
  refine ⟨fun i d hd => ?_, ⟨xs, h1, by rw [r.length]; exact Nat.le_refl _⟩⟩
  obtain ⟨x, hx⟩ := len_get r hd
  refine ⟨⟨xs, x, h1, hx⟩, fun y H3 ⟨e, hy⟩ => ?_⟩
  subst e
  exact ⟨Ext.refl, hk.cap, item_get r hd (hy xs h1)⟩
theorem it_rng {lo : Int} {n : Nat} : ItOk U (Rl ow H) (Itr lo n) (rangeD lo n) := by
  intro ow' H2 s' hr hk
  have hl : (rangeD lo n).length = n := by unfold rangeD; simp
  refine ⟨fun i d hd => ?_, by rw [hl]; exact Nat.le_refl _⟩
  have hi : i < n := by have := (List.getElem?_eq_some_iff.mp hd).1; rw [hl] at this; exact this
  have hd' : d = .int (lo + (i : Nat)) := by
    unfold rangeD at hd
    rw [List.getElem?_map, List.getElem?_range hi] at hd
    exact (Option.some.inj hd).symm
  refine ⟨hi, fun y H3 ⟨e, hy⟩ => ?_⟩
  subst e hy hd'
  exact ⟨Ext.refl, hk.cap, Rp.int⟩
theorem enumD_get : ∀ {ds : List D} {k : Int} {i : Nat} {d : D}, (enumD k ds)[i]? = some d → ∃ e, ds[i]? = some e ∧ d = .tuple [.int (k + (i : Nat)), e]
  | [], k, i, d, h => by simp [enumD] at h
  | x :: ds, k, 0, d, h => by
    simp [enumD] at h
    exact ⟨x, rfl, by rw [← h]; simp⟩
  | x :: ds, k, i + 1, d, h => by
    simp only [enumD, List.getElem?_cons_succ] at h
    obtain ⟨e, h1, h2⟩ := enumD_get h
    refine ⟨e, by simpa using h1, ?_⟩
    rw [h2]
    congr 2
    have : k + 1 + ((i : Nat) : Int) = k + ((i + 1 : Nat) : Int) := by omega
    rw [this]
theorem enumD_len : ∀ (ds : List D) (k : Int), (enumD k ds).length = ds.length
  | [], k => rfl
  | x :: ds, k => by simp only [enumD, List.length_cons]; rw [enumD_len ds]
theorem it_new2 (hk : Hk U ow H s) {T : Addr} (hT : H T = none) {x y : V} {d e : D} (hx : Rp U ow H d x) (hy : Rp U ow H e y) : Ext U H (upd H T (.tup [x, y])) ∧ Cap U (upd H T (.tup [x, y])) s ∧ Rp U ow (upd H T (.tup [x, y])) (.tuple [d, e]) (.ref T) :=
  ⟨Ext.new hT, hk.cap.new hT, Rp.newT (RpL.cons hx (RpL.cons hy RpL.nil)) hT (hk.nocap hT) (hk.noow hT)⟩
theorem it_enumL (hK : X.K = U.K) {a : Addr} {xs : List V} {ds : List D} {k0 : Int} (h : ∀ ow' H2, Rl ow H ow' H2 → H2 a = some (.lst xs) ∧ RpL U ow' H2 ds xs) : ItOk U (Rl ow H) (IteFL X.K k0 a) (enumD k0 ds) := by
  intro ow' H2 s' hr hk
  obtain ⟨h1, r⟩ := h ow' H2 hr
  refine ⟨fun i d hd => ?_, ⟨xs, .inl (.inl h1), by rw [enumD_len, r.length]⟩⟩
  obtain ⟨e, he, hde⟩ := enumD_get hd
  obtain ⟨x, hx⟩ := len_get r he
  refine ⟨⟨xs, x, .inl (.inl h1), hx⟩, fun y H3 ⟨T, x', ey, hT, eH, hy⟩ => ?_⟩
  have hx' := hy xs (.inl (.inl h1))
  subst ey eH hde
  exact it_new2 hk hT Rp.int (item_get r he hx')
theorem it_enumT (hK : X.K = U.K) {a : Addr} {xs : List V} {ds : List D} {k0 : Int} (h : ∀ ow' H2, Rl ow H ow' H2 → SqT U.K H2 a xs ∧ RpL U ow' H2 ds xs) : ItOk U (Rl ow H) (IteFT X.K k0 a) (enumD k0 ds) := by
  intro ow' H2 s' hr hk
  obtain ⟨h1, r⟩ := h ow' H2 hr
  rw [← hK] at h1
  refine ⟨fun i d hd => ?_, ⟨xs, h1, by rw [enumD_len, r.length]⟩⟩
  obtain ⟨e, he, hde⟩ := enumD_get hd
  obtain ⟨x, hx⟩ := len_get r he
  refine ⟨⟨xs, x, h1, hx⟩, fun y H3 ⟨T, x', ey, hT, eH, hy⟩ => ?_⟩
  have hx' := hy xs h1
  subst ey eH hde
  exact it_new2 hk hT Rp.int (item_get r he hx')
theorem zipD_get : ∀ {ds es : List D} {i : Nat} {d : D}, (zipD ds es)[i]? = some d → ∃ a b, ds[i]? = some a ∧ es[i]? = some b ∧ d = .tuple [a, b]
  | [], es, i, d, h => by simp [zipD] at h
  | x :: ds, [], i, d, h => by simp [zipD] at h
  | x :: ds, y :: es, 0, d, h => by
    simp [zipD] at h
    exact ⟨x, y, rfl, rfl, h.symm⟩
  | x :: ds, y :: es, i + 1, d, h => by
    simp only [zipD, List.getElem?_cons_succ] at h
    obtain ⟨a, b, h1, h2, h3⟩ := zipD_get h
    exact ⟨a, b, by simpa using h1, by simpa using h2, h3⟩
theorem zipD_len : ∀ (ds es : List D), (zipD ds es).length = min ds.length es.length
  | [], es => by simp [zipD]
  | x :: ds, [] => by simp [zipD]
  | x :: ds, y :: es => by simp only [zipD, List.length_cons]; rw [zipD_len ds es]; omega
theorem it_zipL (hK : X.K = U.K) {a b : Addr} {xs ys : List V} {ds es : List D} (h : ∀ ow' H2, Rl ow H ow' H2 → H2 a = some (.lst xs) ∧ RpL U ow' H2 ds xs) (h' : ∀ ow' H2, Rl ow H ow' H2 → H2 b = some (.lst ys) ∧ RpL U ow' H2 es ys) : ItOk U (Rl ow H) (Itz X.K a b) (zipD ds es) := by
  intro ow' H2 s' hr hk
  obtain ⟨h1, r⟩ := h ow' H2 hr
  obtain ⟨h2, r2⟩ := h' ow' H2 hr
  refine ⟨fun i d hd => ?_, ⟨xs, ys, .inl (.inl h1), .inl (.inl h2), by rw [zipD_len, r.length, r2.length]; omega⟩⟩
  obtain ⟨e, f, he, hf, hde⟩ := zipD_get hd
  obtain ⟨x, hx⟩ := len_get r he
  obtain ⟨y, hy⟩ := len_get r2 hf
  refine ⟨⟨xs, ys, x, y, .inl (.inl h1), .inl (.inl h2), hx, hy⟩, fun z H3 ⟨T, x', y', ey, hT, eH, q1, q2⟩ => ?_⟩
  have hx' := q1 xs (.inl (.inl h1))
  have hy' := q2 ys (.inl (.inl h2))
  subst ey eH hde
  exact it_new2 hk hT (item_get r he hx') (item_get r2 hf hy')
theorem it_zipT (hK : X.K = U.K) {a b : Addr} {xs ys : List V} {ds es : List D} (h : ∀ ow' H2, Rl ow H ow' H2 → SqT U.K H2 a xs ∧ RpL U ow' H2 ds xs) (h' : ∀ ow' H2, Rl ow H ow' H2 → SqT U.K H2 b ys ∧ RpL U ow' H2 es ys) : ItOk U (Rl ow H) (RZ.ItzT X.K a b) (zipD ds es) := by
  intro ow' H2 s' hr hk
  obtain ⟨h1, r⟩ := h ow' H2 hr
  obtain ⟨h2, r2⟩ := h' ow' H2 hr
  rw [← hK] at h1 h2
  refine ⟨fun i d hd => ?_, ⟨xs, ys, h1, h2, by rw [zipD_len, r.length, r2.length]; omega⟩⟩
  obtain ⟨e, f, he, hf, hde⟩ := zipD_get hd
  obtain ⟨x, hx⟩ := len_get r he
  obtain ⟨y, hy⟩ := len_get r2 hf
  refine ⟨⟨xs, ys, x, y, h1, h2, hx, hy⟩, fun z H3 ⟨T, x', y', ey, hT, eH, q1, q2⟩ => ?_⟩
  have hx' := q1 xs h1
  have hy' := q2 ys h2
  subst ey eH hde
  exact it_new2 hk hT (item_get r he hx') (item_get r2 hf hy')
end
end Py

set_option Elab.async false
set_option linter.all false
set_option maxRecDepth 100000
set_option maxHeartbeats 1000000
namespace Py
open PySem PySem.Spec PyProof.Rows L2
section
variable {U : Wd} {k : Nat} {Γ : Cxt} {X : Cx} {W : WX} {G : Gs} {ow : Ow} {H : Hp} {s : DS} {Rl : Ow → Hp → Ow → Hp → Prop} {Src : Ow → Hp → D → V → Prop}
def SrcL (Src : Ow → Hp → D → V → Prop) (ow : Ow) (H : Hp) : List D → List V → Prop
  | [], xs => xs = []
  | d :: ds, xs => ∃ x ys, xs = x :: ys ∧ Src ow H d x ∧ SrcL Src ow H ds ys
def tOfQA (U : Wd) (W : WX) (Src : Ow → Hp → D → V → Prop) (f : St → M (List D)) : TA := fun σ H Q => ∃ H0 ow0 ow σd s, SR U H0 ow0 ow σ H σd s ∧ Wp (f σd) s (fun ds s' => ∀ vs H', Ext U H H' → Cap U H' s' → SrcL Src ow H' ds vs → Q vs H') (PostX U W σ H)
theorem pa_evsQ {f : St → Expr → M D} (SO : SrcOk U Rl Src) (g : ∀ e, PE X e (tOfQ U W Src (fun σ => f σ e))) : ∀ es : List Expr, PA X es (tOfQA U W Src (fun σ => evs (f σ) es))
  | [] => PA.imp pa_nil fun σ H Q h => by
    obtain ⟨H0, ow0, ow, σd, s, S, w⟩ := h
    exact w.of_pure [] H Ext.refl S.cap (by unfold SrcL; rfl)
  | e :: es => by
    by_cases hn : notStar e = true
    · refine PA.imp (pa_cons (g e) (pa_evsQ SO g es) (starEach_ns hn)) fun σ H Q h => ?_
      obtain ⟨H0, ow0, ow, σd, s, S, w⟩ := h
      have w : Wp (evs (f σd) (e :: es)) s _ _ := w
      unfold evs at w
      rw [if_pos hn] at w
      refine ⟨H0, ow0, ow, σd, s, S, w.of_bind.mono (fun d1 s1 h1 v1 H1 e1 c1 r1 => ⟨H0, ow0, ow, σd, s1, S.ext e1 c1, h1.of_bind.mono (fun ds s2 h2 vs H2 e2 c2 r2 => h2.of_pure (v1 :: vs) H2 (e1.trans e2) c2 (by unfold SrcL; exact ⟨v1, vs, rfl, SO.ext _ _ _ _ _ e2 r1, r2⟩)) fun x s' hx cls od H' e' => hx cls od H' (e1.trans e')⟩) fun _ _ h => h⟩
    · refine ⟨fun pos pins s σ H Q I h => ?_⟩
      obtain ⟨H0, ow0, ow, σd, s, S, w⟩ := h
      have w : Wp (evs (f σd) (e :: es)) s _ _ := w
      unfold evs at w
      rw [if_neg hn] at w
      exact w.of_fail.elim
theorem SrcL.one {d : D} {vs : List V} (h : SrcL Src ow H [d] vs) : ∃ v, vs = [v] ∧ Src ow H d v := by
  unfold SrcL at h
  obtain ⟨x, ys, e, p, r⟩ := h
  unfold SrcL at r
  subst r
  exact ⟨x, e, p⟩
theorem SrcL.two {d e : D} {vs : List V} (h : SrcL Src ow H [d, e] vs) : ∃ v w, vs = [v, w] ∧ Src ow H d v ∧ Src ow H e w := by
  unfold SrcL at h
  obtain ⟨x, ys, e1, p, r⟩ := h
  obtain ⟨y, e2, q⟩ := SrcL.one r
  subst e2
  exact ⟨x, y, e1, p, q⟩
theorem tOfQA.step {f : St → M (List D)} {β : Type} {kk : List D → M β} {σ : L2.St} {H0 : Hp} {ow0 : Ow} {σd : St} (S : SR U H0 ow0 ow σ H σd s) {Qb : β → DS → Prop} (w : Wp (f σd >>= kk) s Qb (PostX U W σ H)) {R : List V → Hp → Prop}
    (h : ∀ d v H1 s1, Ext U H H1 → SR U H0 ow0 ow σ H1 σd s1 → SrcL Src ow H1 d v → Wp (kk d) s1 Qb (PostX U W σ H) → R v H1) : tOfQA U W Src f σ H R :=
  ⟨H0, ow0, ow, σd, s, S, w.of_bind.mono (fun d s1 h1 v H1 e c p => h d v H1 s1 e (S.ext e c) p h1) fun _ _ h => h⟩
theorem tOfQ.step {f : St → M D} {β : Type} {kk : D → M β} {σ : L2.St} {H0 : Hp} {ow0 : Ow} {σd : St} (S : SR U H0 ow0 ow σ H σd s) {Qb : β → DS → Prop} (w : Wp (f σd >>= kk) s Qb (PostX U W σ H)) {R : VK}
    (h : ∀ d v H1 s1, Ext U H H1 → SR U H0 ow0 ow σ H1 σd s1 → Src ow H1 d v → Wp (kk d) s1 Qb (PostX U W σ H) → R v H1) : tOfQ U W Src f σ H R :=
  ⟨H0, ow0, ow, σd, s, S, w.of_bind.mono (fun d s1 h1 v H1 e c p => h d v H1 s1 e (S.ext e c) p h1) fun _ _ h => h⟩
theorem SqL.of_eq {K : PySem.W.Frag} {a : Addr} {xs : List V} (h : H a = some (.lst xs)) : SqL K H a xs := .inl (.inl h)
/-- data that are walked as they are -/
theorem pi_data (g : Good U k Γ X W) (SO : SrcOk U Rl Src) {tg e : Expr} {f : St → M D} (ha : PE X e (tOfQ U W Src f)) :
    PI X tg e (tOfI U W (fun σ => dataI (f σ)) Rl) := by
  have p1 := pi_list (tg := tg) ha
  have p2 := pi_tup (tg := tg) ha
  refine ⟨fun pins s' σ H R I h => ?_⟩
  obtain ⟨H0, ow0, ow, σd, s, S, w⟩ := h
  have w : Wp (do let d ← f σd; match itemsOf d with | some ds => pure ds | none => fail) s _ _ := w
  refine thn (ha.run pins s' σ H (fun v H1 => ∃ d s1, Ext U H H1 ∧ SR U H0 ow0 ow σ H1 σd s1 ∧ Src ow H1 d v ∧ Wp (match itemsOf d with | some ds => pure ds | none => fail) s1 (fun items s' => ∀ J H', Ext U H H' → Cap U H' s' → ItOk U (Rl ow H') J items → R J H') (PostX U W σ H)) I (tOfQ.step S w fun d1 v1 H1 s1 e1 S1 p1 w1 => ⟨d1, s1, e1, S1, p1, w1⟩)) fun v s2 hv => ?_
  obtain ⟨x, H1, I1, rx, d, s1, e1, S1, px, w1⟩ := hv
  cases d with
  | list ds =>
    have w1 : Wp (pure ds) s1 _ _ := w1
    obtain ⟨a, xs, ev, h1, hh⟩ := SO.lst _ _ _ _ px
    subst ev
    cases rx
    obtain ⟨its, rv, p, hz⟩ := I1.list (SqL.of_eq h1)
    refine wpAny_pyIter_list p.isList ?_
    refine ⟨s2.heap.objs.size, [s2.heap.objs.size], _, _, H1, rfl, I1.kept (t' := s2.toks) fun b o e => Heap.get?_push_of_some _ e, turn_list a _, ⟨_, Heap.get?_push_size _ rfl, rfl, rfl⟩, fun b hb => ?_, w1.of_pure _ H1 e1 S1.cap (it_list g.K hh)⟩
    have e : b = s2.heap.objs.size := by simpa using hb
    subst e
    exact I1.fpOk (Nat.le_refl _) (I1.hok.fresh (Nat.le_refl _))
  | tuple ds =>
    have w1 : Wp (pure ds) s1 _ _ := w1
    obtain ⟨a, xs, ev, h1, hh⟩ := SO.tup _ _ _ _ px
    subst ev
    cases rx
    obtain ⟨its, rv, p, hz⟩ := I1.tuple (by rw [g.K]; exact h1)
    refine wpAny_pyIter_tuple (show s2.heap.IsTuple a its.toArray from p) ?_
    refine ⟨s2.heap.objs.size, [s2.heap.objs.size], _, _, H1, rfl, I1.kept (t' := s2.toks) fun b o e => Heap.get?_push_of_some _ e, turn_tuple a _, ⟨_, Heap.get?_push_size _ rfl, rfl, rfl⟩, fun b hb => ?_, w1.of_pure _ H1 e1 S1.cap (it_tup g.K hh)⟩
    have e : b = s2.heap.objs.size := by simpa using hb
    subst e
    exact I1.fpOk (Nat.le_refl _) (I1.hok.fresh (Nat.le_refl _))
  | _ => exact w1.of_fail.elim
theorem boot_rangeX : bootBuiltins "range" = some (.type "range") := boot_range
theorem evs_wp {f : Expr → M D} : ∀ {es : List Expr} {s : DS} {Q : List D → DS → Prop} {E : Exc → DS → Prop}, Wp (evs f es) s Q E → Wp (evs f es) s (fun ds s' => ds.length = es.length ∧ Q ds s') E
  | [], s, Q, E, w => ⟨rfl, w.of_pure⟩
  | e :: es, s, Q, E, w => by
    unfold evs at w ⊢
    by_cases hn : notStar e = true
    · rw [if_pos hn] at w ⊢
      rw [Wp.bind_iff] at w ⊢
      refine w.mono (fun d s1 h1 => ?_) fun _ _ h => h
      rw [Wp.bind_iff] at h1 ⊢
      exact (evs_wp h1).mono (fun ds s2 ⟨hl, h2⟩ => ⟨by rw [List.length_cons, List.length_cons, hl], h2⟩) fun _ _ h => h
    · rw [if_neg hn] at w
      exact w.of_fail.elim
theorem in62_ok {i : Int} (h : in62 i = true) : -(2 ^ 62) ≤ i ∧ i < 2 ^ 62 := by
  unfold in62 at h
  simp only [Bool.and_eq_true, decide_eq_true_eq] at h
  exact h
/-- what iterC walks -/
theorem src_items (SO : SrcOk U Rl Src) {d : D} {ds : List D} {v : V} (hs : Src ow H d v) (he : itemsOf d = some ds) :
    (∃ a xs, v = .ref a ∧ H a = some (.lst xs) ∧ ∀ ow' H2, Rl ow H ow' H2 → H2 a = some (.lst xs) ∧ RpL U ow' H2 ds xs) ∨ (∃ a xs, v = .ref a ∧ SqT U.K H a xs ∧ ∀ ow' H2, Rl ow H ow' H2 → SqT U.K H2 a xs ∧ RpL U ow' H2 ds xs) := by
  cases d with
  | list es => cases he; exact .inl (SO.lst _ _ _ _ hs)
  | tuple es => cases he; exact .inr (SO.tup _ _ _ _ hs)
  | _ => cases he
theorem int_src (SO : SrcOk U Rl Src) {i : Int} {v : V} (hs : Src ow H (.int i) v) : v = .int i := (SO.pk _ _ _ _ hs).int
theorem tOfQA.stepL {f : St → Expr → M D} {args : List Expr} {β : Type} {kk : List D → M β} {σ : L2.St} {H0 : Hp} {ow0 : Ow} {σd : St} (S : SR U H0 ow0 ow σ H σd s) {Qb : β → DS → Prop} (w : Wp (evs (f σd) args >>= kk) s Qb (PostX U W σ H)) {R : List V → Hp → Prop}
    (h : ∀ d v H1 s1, d.length = args.length → Ext U H H1 → SR U H0 ow0 ow σ H1 σd s1 → SrcL Src ow H1 d v → Wp (kk d) s1 Qb (PostX U W σ H) → R v H1) : tOfQA U W Src (fun σ => evs (f σ) args) σ H R :=
  ⟨H0, ow0, ow, σd, s, S, (evs_wp w.of_bind).mono (fun d s1 ⟨hl, h1⟩ v H1 e c p => h d v H1 s1 hl e (S.ext e c) p h1) fun _ _ h => h⟩
theorem iterC_rng {xs : List D} : iterC ("range" : Str) xs = (match xs with
    | [.int n] => if in62 n = true then pure (rangeD 0 n.toNat) else fail
    | [.int a, .int b] => if in62 a = true ∧ in62 b = true then pure (rangeD a (b - a).toNat) else fail
    | _ => fail) := by
  unfold iterC
  rw [if_pos rfl]
  all_goals rfl
theorem iterC_enum {xs : List D} : iterC ("enumerate" : Str) xs = (match xs with
    | [x] => match itemsOf x with
      | some ds => pure (enumD 0 ds)
      | none => fail
    | [x, .int k] => match itemsOf x with
      | some ds => if in62 k = true then pure (enumD k ds) else fail
      | none => fail
    | _ => fail) := by
  unfold iterC
  rw [if_neg (by decide), if_pos rfl]
  all_goals rfl
theorem iterC_zip {xs : List D} : iterC ("zip" : Str) xs = (match xs with
    | [.list ds, .list es] => pure (zipD ds es)
    | [.tuple ds, .tuple es] => pure (zipD ds es)
    | _ => fail) := by
  unfold iterC
  rw [if_neg (by decide), if_neg (by decide), if_pos rfl]
  all_goals rfl
/-- range(..), enumerate(..), zip(..) -/
theorem pi_call (g : Good U k Γ X W) (SO : SrcOk U Rl Src) {tg : Expr} {fn : Str} {p pos : Pos} {args : List Expr} {f : St → Expr → M D} (ha : ∀ e, PE X e (tOfQ U W Src (fun σ => f σ e))) (h1 : L2.Gl X fn) (h2 : X.mg fn = none)
    (hf : iterOk fn args tg = true) :
    PI X tg (.Call (.Name fn p) args [] pos) (tOfI U W (fun σ => do let xs ← evs (f σ) args; iterC fn xs) Rl) := by
  have pa := pa_evsQ SO ha args
  unfold iterOk at hf
  rw [Bool.and_eq_true] at hf
  obtain ⟨hn, hf⟩ := hf
  match args, hn, hf, pa with
  | [], _, hf, _ => simp at hf
  | [a], hn, hf, pa =>
    have hs : starEach [a] X.env = (false, eval a X.env) :: starEach [] X.env := starEach_ns (noStars_mem hn a List.mem_cons_self)
    by_cases e1 : fn = ("range" : Str)
    · subst e1
      refine PI.imp (pi_range1 h1 h2 pa hs) fun σ H R h => ?_
      obtain ⟨H0, ow0, ow, σd, s, S, w⟩ := h
      show tOfQA U W Src _ σ H _
      refine tOfQA.stepL S w fun ds vs H1 s1 hl e1 S1 sl w1 => ?_
      rw [iterC_rng] at w1
      split at w1
      · rename_i n
        obtain ⟨h62, w1⟩ := w1.of_guard
        obtain ⟨v, ev, hv⟩ := sl.one
        rw [int_src SO hv] at ev
        obtain ⟨b1, b2⟩ := in62_ok h62
        exact ⟨n, ev, b1, b2, w1.of_pure _ H1 e1 S1.cap it_rng⟩
      · simp at hl
      · exact w1.of_fail.elim
    · have e2 : fn = ("enumerate" : Str) ∧ isTup tg = true := by
        have : ¬ (fn = ("range" : Str)) := e1
        simp [this] at hf
        exact ⟨hf.2, hf.1⟩
      obtain ⟨e2, ht⟩ := e2
      subst e2
      cases tg with
      | Tuple elts kk tpos =>
        refine PI.imp (pi_enum1 h1 h2 pa hs (by rfl)) fun σ H R h => ?_
        obtain ⟨H0, ow0, ow, σd, s, S, w⟩ := h
        show tOfQA U W Src _ σ H _
        refine tOfQA.stepL S w fun ds vs H1 s1 hl e1 S1 sl w1 => ?_
        rw [iterC_enum] at w1
        split at w1
        · rename_i x
          split at w1
          · rename_i es he
            obtain ⟨v, ev, hv⟩ := sl.one
            rcases src_items SO hv he with ⟨a, xs, e3, h3, hh⟩ | ⟨a, xs, e3, h3, hh⟩
            · subst e3
              exact ⟨a, xs, ev, .inl ⟨SqL.of_eq h3, w1.of_pure _ H1 e1 S1.cap (it_enumL g.K hh)⟩⟩
            · subst e3
              exact ⟨a, xs, ev, .inr ⟨by rw [g.K]; exact h3, w1.of_pure _ H1 e1 S1.cap (it_enumT g.K hh)⟩⟩
          · exact w1.of_fail.elim
        · simp at hl
        · exact w1.of_fail.elim
      | _ => simp [isTup] at ht
  | [a, b], hn, hf, pa =>
    have hs : starEach [a, b] X.env = (false, eval a X.env) :: starEach [b] X.env := starEach_ns (noStars_mem hn a List.mem_cons_self)
    have hs2 : starEach [b] X.env = (false, eval b X.env) :: starEach [] X.env := starEach_ns (noStars_mem hn b (by simp))
    have hp : (backTo pos (starEach [b] X.env)).any (·.1) = false := plain_star fun e he => noStars_mem hn e (List.mem_cons_of_mem _ he)
    by_cases e1 : fn = ("range" : Str)
    · subst e1
      refine PI.imp (pi_range2 h1 h2 pa (by rw [hs, hs2]; rfl) hs2) fun σ H R h => ?_
      obtain ⟨H0, ow0, ow, σd, s, S, w⟩ := h
      show tOfQA U W Src _ σ H _
      refine tOfQA.stepL S w fun ds vs H1 s1 hl e1 S1 sl w1 => ?_
      rw [iterC_rng] at w1
      split at w1
      · simp at hl
      · rename_i i j
        obtain ⟨⟨h62, h63⟩, w1⟩ := w1.of_guard
        obtain ⟨v, u, ev, hv, hu⟩ := sl.two
        rw [int_src SO hv, int_src SO hu] at ev
        obtain ⟨b1, b2⟩ := in62_ok h62
        obtain ⟨b3, b4⟩ := in62_ok h63
        exact ⟨i, j, ev, ⟨b1, b2, b3, b4⟩, w1.of_pure _ H1 e1 S1.cap it_rng⟩
      · exact w1.of_fail.elim
    · have e2 : isTup tg = true ∧ (fn = ("enumerate" : Str) ∨ fn = ("zip" : Str)) := by
        have : ¬ (fn = ("range" : Str)) := e1
        simp [this] at hf
        exact hf
      obtain ⟨ht, e2⟩ := e2
      cases tg with
      | Tuple elts kk tpos =>
        rcases e2 with e2 | e2
        · subst e2
          refine PI.imp (pi_enum2 h1 h2 pa hs hp) fun σ H R h => ?_
          obtain ⟨H0, ow0, ow, σd, s, S, w⟩ := h
          show tOfQA U W Src _ σ H _
          refine tOfQA.stepL S w fun ds vs H1 s1 hl e1 S1 sl w1 => ?_
          rw [iterC_enum] at w1
          split at w1
          · simp at hl
          · rename_i x n
            split at w1
            · rename_i es he
              obtain ⟨h62, w1⟩ := w1.of_guard
              obtain ⟨v, u, ev, hv, hu⟩ := sl.two
              rw [int_src SO hu] at ev
              obtain ⟨b1, b2⟩ := in62_ok h62
              rcases src_items SO hv he with ⟨a, xs, e3, h3, hh⟩ | ⟨a, xs, e3, h3, hh⟩
              · subst e3
                exact ⟨a, xs, n, ev, by omega, by omega, .inl ⟨SqL.of_eq h3, w1.of_pure _ H1 e1 S1.cap (it_enumL g.K hh)⟩⟩
              · subst e3
                exact ⟨a, xs, n, ev, by omega, by omega, .inr ⟨by rw [g.K]; exact h3, w1.of_pure _ H1 e1 S1.cap (it_enumT g.K hh)⟩⟩
            · exact w1.of_fail.elim
          · exact w1.of_fail.elim
        · subst e2
          refine PI.imp (RZ.pi_zipA h1 h2 pa hs hp) fun σ H R h => ?_
          obtain ⟨H0, ow0, ow, σd, s, S, w⟩ := h
          show tOfQA U W Src _ σ H _
          refine tOfQA.stepL S w fun ds vs H1 s1 hl e1 S1 sl w1 => ?_
          rw [iterC_zip] at w1
          split at w1
          · rename_i es fs
            obtain ⟨v, u, ev, hv, hu⟩ := sl.two
            obtain ⟨a, xs, e3, h3, hh⟩ := SO.lst _ _ _ _ hv
            obtain ⟨b, ys, e4, h4, hh4⟩ := SO.lst _ _ _ _ hu
            subst e3 e4
            exact ⟨a, b, xs, ys, ev, .inl ⟨SqL.of_eq h3, SqL.of_eq h4, w1.of_pure _ H1 e1 S1.cap (it_zipL g.K hh hh4)⟩⟩
          · rename_i es fs
            obtain ⟨v, u, ev, hv, hu⟩ := sl.two
            obtain ⟨a, xs, e3, h3, hh⟩ := SO.tup _ _ _ _ hv
            obtain ⟨b, ys, e4, h4, hh4⟩ := SO.tup _ _ _ _ hu
            subst e3 e4
            exact ⟨a, b, xs, ys, ev, .inr ⟨by rw [g.K]; exact h3, by rw [g.K]; exact h4, w1.of_pure _ H1 e1 S1.cap (it_zipT g.K hh hh4)⟩⟩
          · exact w1.of_fail.elim
      | _ => simp [isTup] at ht
  | a :: b :: c :: r, _, hf, _ => simp at hf
theorem fold_ok {e : Expr} {env : Env} (h : ∀ es j p, e ≠ .Set es j p) : ∀ x, foldedSetIterable e env x = pure x := by
  intro x
  cases e <;> first | rfl | exact absurd rfl (h _ _ _)
/-- what is walked -/
theorem pi_iterE (g : Good U k Γ X W) (go : GlOk U k G) (SO : SrcOk U Rl Src) {tg it : Expr} {f : St → Expr → M D} (ha : ∀ e, PE X e (tOfQ U W Src (fun σ => f σ e))) :
    PI X tg it (tOfI U W (fun σ => iterE G Γ (f σ) tg it) Rl) ∧ ((∀ x, foldedSetIterable it X.env x = pure x) ∨ ∀ σ, iterE G Γ (f σ) tg it = fail) := by
  have gen : ∀ e, (∀ σ, iterE G Γ (f σ) tg e = dataI (f σ e)) → PI X tg e (tOfI U W (fun σ => iterE G Γ (f σ) tg e) Rl) := fun e h => by
    have : (fun σ => iterE G Γ (f σ) tg e) = fun σ => dataI (f σ e) := funext h
    rw [this]
    exact pi_data g SO (ha e)
  by_cases hs : ∃ es j p, it = .Set es j p
  · obtain ⟨es, j, p, rfl⟩ := hs
    refine ⟨⟨fun pins s' σ H R I h => ?_⟩, .inr fun σ => rfl⟩
    obtain ⟨H0, ow0, ow, σd, s, S, w⟩ := h
    exact (show Wp fail s _ _ from w).of_fail.elim
  · refine ⟨?_, .inl (fold_ok fun es j p e => hs ⟨es, j, p, e⟩)⟩
    cases it with
    | Call fe args kws pos =>
      cases fe with
      | Name fn p =>
        cases kws with
        | nil =>
          by_cases hc : gname G Γ fn = true ∧ iterOk fn args tg = true
          · have : (fun σ => iterE G Γ (f σ) tg (.Call (.Name fn p) args [] pos)) = (fun σ => evs (f σ) args >>= fun xs => iterC fn xs) := by
              funext σ
              show (if gname G Γ fn = true ∧ iterOk fn args tg = true then _ else _) = _
              rw [if_pos hc]
            rw [this]
            obtain ⟨hg, hi⟩ := hc
            unfold gname at hg
            simp only [Bool.and_eq_true] at hg
            obtain ⟨k1, k2, k3, k4⟩ := gname_ok g go hg.1.1 hg.1.2 hg.2
            exact pi_call g SO ha k1 k2 hi
          · exact gen _ fun σ => by
              show (if gname G Γ fn = true ∧ iterOk fn args tg = true then _ else _) = _
              rw [if_neg hc]
        | cons kw kws => exact gen _ fun σ => rfl
      | _ => exact gen _ fun σ => rfl
    | Set es j p => exact absurd ⟨es, j, p, rfl⟩ hs
    | _ => exact gen _ fun σ => rfl
end
end Py

set_option Elab.async false
set_option linter.all false
set_option maxRecDepth 100000
set_option maxHeartbeats 1000000
namespace Py
open PySem PySem.Spec PyProof.Rows L2
section
variable {U : Wd} {k : Nat} {Γ : Cxt} {X : Cx} {W : WX} {G : Gs} {ow ow0 : Ow} {H H0 : Hp} {s : DS} {σ : L2.St} {σd : St}
theorem SR.set (S : SR U H0 ow0 ow σ H σd s) {i : Nat} {d : D} {v : V} (r : Rp U ow H d v) : SR U H0 ow0 ow (σ.set i (some v)) H (σd.set i (some (d, false))) s := by
  refine ⟨S.trk, S.capo, S.cello, S.own0, S.agr, S.base, fun j e o h => ?_, S.cap, by rw [List.length_set, List.length_set]; exact S.len⟩
  by_cases hj : i = j
  · subst hj
    by_cases hi : i < σd.length
    · rw [List.getElem?_set_self hi] at h
      cases h
      exact ⟨v, by rw [List.getElem?_set_self (by rw [← S.len]; exact hi)], fun _ => r, fun z => by cases z⟩
    · rw [List.getElem?_eq_none (by simpa using hi)] at h; cases h
  · rw [List.getElem?_set_ne hj] at h ⊢
    exact S.slots j e o h
/-- the slots but those at is stand as before -/
def SameBut (is : List Nat) (σ σ' : L2.St) : Prop := σ'.length = σ.length ∧ ∀ i, i ∉ is → σ'[i]? = σ[i]?
theorem SameBut.refl {is : List Nat} : SameBut is σ σ := ⟨rfl, fun _ _ => rfl⟩
theorem SameBut.trans {is js : List Nat} {σ' σ'' : L2.St} (a : SameBut is σ σ') (b : SameBut js σ' σ'') (h1 : ∀ i ∈ is, i ∈ js) : SameBut js σ σ'' := ⟨b.1.trans a.1, fun i hi => (b.2 i hi).trans (a.2 i fun z => hi (h1 i z))⟩
theorem SameBut.set {is : List Nat} {i : Nat} {v : Option V} (h : i ∈ is) : SameBut is σ (σ.set i v) := ⟨by rw [List.length_set], fun j hj => List.getElem?_set_ne (fun z => hj (by rw [← z]; exact h))⟩
theorem SameBut.wipe {is : List Nat} {σ' : L2.St} (a : SameBut is σ σ') : L2.wipe σ' is = L2.wipe σ is := by
  apply List.ext_getElem?
  intro i
  by_cases hi : i ∈ is
  · have key : ∀ (τ : L2.St) (js : List Nat), i ∈ js → (L2.wipe τ js)[i]? = if i < τ.length then some none else none := by
      intro τ js
      induction js with
      | nil => intro h; simp at h
      | cons j js ih =>
        intro h
        unfold L2.wipe
        by_cases hj : j = i
        · subst hj
          by_cases hl : j < τ.length
          · rw [List.getElem?_set_self (by rw [wipe_length]; exact hl), if_pos hl]
          · rw [if_neg hl, List.getElem?_eq_none (by rw [List.length_set, wipe_length]; omega)]
        · rw [List.getElem?_set_ne hj]
          exact ih ((List.mem_cons.mp h).resolve_left (fun z => hj z.symm))
    rw [key σ' is hi, key σ is hi, a.1]
  · rw [wipe_out hi, wipe_out hi]
    exact a.2 i hi
theorem setN_of {x : Str} {i : Nat} {d : D} (h : setI Γ x = some i) : setN Γ σd x d false = some (σd.set i (some (d, false))) := by
  unfold setI at h
  split at h
  · rename_i hc
    unfold setN
    rw [if_pos hc, h]
  · cases h
theorem bindNs_of : ∀ {es : List Expr} {is : List Nat} {ds : List D} {σd σd' : St}, idxs Γ es = some is → setAll σd is ds = some σd' → bindNs Γ σd es ds = some σd'
  | [], is, ds, σd, σd', h, hs => by
    cases h
    cases ds with
    | nil => unfold setAll at hs; unfold bindNs; exact hs
    | cons _ _ => unfold setAll at hs; cases hs
  | e :: es, is, ds, σd, σd', h, hs => by
    cases e with
    | Name x p =>
      unfold idxs at h
      cases h1 : setI Γ x with
      | none => rw [h1] at h; cases h
      | some i =>
        cases h2 : idxs Γ es with
        | none => rw [h1, h2] at h; cases h
        | some js =>
          rw [h1, h2] at h
          cases h
          cases ds with
          | nil => unfold setAll at hs; cases hs
          | cons d ds =>
            unfold setAll at hs
            unfold bindNs
            rw [setN_of h1]
            exact bindNs_of h2 hs
    | _ => unfold idxs at h; cases h
theorem bindT_to {tg : Expr} {d : D} {σd σd' : St} (h : bindT Γ σd tg d = some σd') : bindT0 Γ σd tg d = some σd' := by
  unfold bindT at h
  cases tg with
  | Name x p =>
    unfold tgIdx at h
    dsimp only at h
    cases h1 : setI Γ x with
    | none => rw [h1] at h; cases h
    | some i =>
      rw [h1] at h
      exact (setN_of h1).trans h
  | Tuple es j p =>
    unfold tgIdx at h
    dsimp only at h
    cases h1 : idxs Γ es with
    | none => rw [h1] at h; cases h
    | some is =>
      rw [h1] at h
      have h : (match itemsOf d with
        | some ds => setAll σd is ds
        | none => none) = some σd' := h
      unfold bindT0
      dsimp only
      cases hd : itemsOf d with
      | none => rw [hd] at h; cases h
      | some ds => rw [hd] at h; exact bindNs_of h1 h
  | _ => unfold tgIdx at h; cases h
/-- a target that names take -/
def gOf (U : Wd) (Γ : Cxt) (tg : Expr) (is : List Nat) : TG := fun v σ H Q => ∃ H0 ow0 ow σd s d σd', SR U H0 ow0 ow σ H σd s ∧ Rp U ow H d v ∧ bindT0 Γ σd tg d = some σd' ∧ ∀ σ', SR U H0 ow0 ow σ' H σd' s → SameBut is σ σ' → Q σ' H
def gsOf (U : Wd) (Γ : Cxt) (es : List Expr) (is : List Nat) : TGs := fun vs σ H Q => ∃ H0 ow0 ow σd s ds σd', SR U H0 ow0 ow σ H σd s ∧ RpL U ow H ds vs ∧ bindNs Γ σd es ds = some σd' ∧ ∀ σ', SR U H0 ow0 ow σ' H σd' s → SameBut is σ σ' → Q σ' H
theorem PG.imp {tg : Expr} {t t' : TG} (h : PG X tg t) (i : ∀ v σ H Q, t' v σ H Q → t v σ H Q) : PG X tg t' := ⟨fun pins s σ H v u Q I r q => h.run pins s σ H v u Q I r (i v σ H Q q)⟩
theorem PGs.imp {tg : List Expr} {t t' : TGs} (h : PGs X tg t) (i : ∀ v σ H Q, t' v σ H Q → t v σ H Q) : PGs X tg t' := ⟨fun pins s σ H v u Q I r q => h.run pins s σ H v u Q I r (i v σ H Q q)⟩
theorem setN_ok {x : Str} {d : D} {o : Bool} {σd' : St} (h : setN Γ σd x d o = some σd') : ∃ i, okName x = true ∧ (Γ.st.names.lookup x = some .local ∨ Γ.st.names.lookup x = some .cell) ∧ Γ.N.idxOf? x = some i ∧ Γ.N[i]? = some x ∧ σd' = σd.set i (some (d, o)) := by
  unfold setN at h
  split at h
  · rename_i hc
    split at h
    · rename_i i hi
      cases h
      exact ⟨i, hc.1, hc.2, hi, idxOf_get hi, rfl⟩
    · cases h
  · cases h
theorem loc_ok (g : Good U k Γ X W) {x : Str} (h : Γ.st.names.lookup x = some .local ∨ Γ.st.names.lookup x = some .cell) : L2.Loc X.env.scope x ∧ (X.fn x = true ∨ X.env.scope.names.lookup x = some .local) := by
  unfold L2.Loc
  rw [g.sc]
  rcases h with h | h
  · exact ⟨.inl (g.stl x h), .inr (g.stl x h)⟩
  · exact ⟨.inr (g.stc x h).1, .inl (g.stc x h).2⟩
theorem pg_nameI (g : Good U k Γ X W) {x : Str} {p : Pos} {is : List Nat} (hi : ∀ i, Γ.N.idxOf? x = some i → i ∈ is) : PG X (.Name x p) (gOf U Γ (.Name x p) is) := by
  by_cases hh : ∃ i, okName x = true ∧ (Γ.st.names.lookup x = some .local ∨ Γ.st.names.lookup x = some .cell) ∧ Γ.N.idxOf? x = some i
  · obtain ⟨i, hok, hl, hx⟩ := hh
    obtain ⟨h1, h2⟩ := loc_ok g hl
    refine PG.imp (pg_name (i := i) (by rw [g.N]; exact g.nd) (by rw [g.N]; exact idxOf_get hx) h1 h2) fun v σ H Q h => ?_
    obtain ⟨H0, ow0, ow, σd, s, d, σd', S, r, hb, q⟩ := h
    obtain ⟨j, _, _, hj, _, e⟩ := setN_ok (show setN Γ σd x d false = some σd' from hb)
    rw [hx] at hj; cases hj
    subst e
    exact q _ (S.set r) (SameBut.set (hi i hx))
  · refine ⟨fun pins s' σ H v u Q I r h => ?_⟩
    obtain ⟨H0, ow0, ow, σd, s, d, σd', S, r, hb, q⟩ := h
    obtain ⟨j, h1, h2, hj, _, e⟩ := setN_ok (show setN Γ σd x d false = some σd' from hb)
    exact absurd ⟨j, h1, h2, hj⟩ hh
theorem pgs_I (g : Good U k Γ X W) {is : List Nat} : ∀ (es : List Expr), (∀ x ∈ tgNames (.Tuple es 0 ⟨0, 0, 0, 0⟩), ∀ i, Γ.N.idxOf? x = some i → i ∈ is) → PGs X es (gsOf U Γ es is)
  | [], _ => PGs.imp pgs_nil fun vs σ H Q h => by
    obtain ⟨H0, ow0, ow, σd, s, ds, σd', S, r, hb, q⟩ := h
    cases ds with
    | nil =>
      unfold RpL at r
      unfold bindNs at hb
      cases hb
      exact ⟨r, q σ S SameBut.refl⟩
    | cons d ds => simp [bindNs] at hb
  | e :: es, hi => by
    cases e with
    | Name x p =>
      have hx : ∀ i, Γ.N.idxOf? x = some i → i ∈ is := hi x (by simp [tgNames])
      have hr := pgs_I g es fun y hy => hi y (by simp [tgNames] at hy ⊢; exact .inr hy)
      refine PGs.imp (pgs_cons (pg_nameI g hx) hr) fun vs σ H Q h => ?_
      obtain ⟨H0, ow0, ow, σd, s, ds, σd', S, r, hb, q⟩ := h
      cases ds with
      | nil => simp [bindNs] at hb
      | cons d ds =>
        unfold RpL at r
        obtain ⟨v, ys, e, r1, r2⟩ := r
        unfold bindNs at hb
        cases h1 : setN Γ σd x d false with
        | none => rw [h1] at hb; cases hb
        | some σ1 =>
          rw [h1] at hb
          exact ⟨v, ys, e, H0, ow0, ow, σd, s, d, σ1, S, r1, h1, fun σ' S' sb => ⟨H0, ow0, ow, σ1, s, ds, σd', S', r2, hb, fun σ'' S'' sb' => q σ'' S'' (sb.trans sb' fun _ z => z)⟩⟩
    | _ =>
      refine ⟨fun pins s' σ H v u Q I r h => ?_⟩
      obtain ⟨H0, ow0, ow, σd, s, ds, σd', S, r, hb, q⟩ := h
      cases ds <;> simp [bindNs] at hb
theorem assign_names {env : Env} : ∀ {es : List Expr} {xs : List Str}, namesOf es = some xs → (assignEach es env).length = es.length ∧ (assignEach es env).findIdx? (·.1) = none
  | [], _, _ => ⟨rfl, rfl⟩
  | e :: es, xs, h => by
    cases e with
    | Name x p =>
      unfold namesOf at h
      cases h1 : namesOf es with
      | none => rw [h1] at h; cases h
      | some ys =>
        obtain ⟨h2, h3⟩ := assign_names (env := env) h1
        constructor
        · show (assignEach es env).length + 1 = es.length + 1
          rw [h2]
        · show ((false, _) :: assignEach es env).findIdx? (·.1) = none
          rw [List.findIdx?_cons, h3]
          rfl
    | _ => simp [namesOf] at h
theorem bindNs_names : ∀ {es : List Expr} {ds : List D} {σd σd' : St}, bindNs Γ σd es ds = some σd' → ∃ xs, namesOf es = some xs
  | [], _, _, _, _ => ⟨[], rfl⟩
  | e :: es, ds, σd, σd', h => by
    cases e with
    | Name x p =>
      cases ds with
      | nil => simp [bindNs] at h
      | cons d ds =>
        unfold bindNs at h
        cases h1 : setN Γ σd x d false with
        | none => rw [h1] at h; cases h
        | some σ1 =>
          rw [h1] at h
          obtain ⟨ys, hy⟩ := bindNs_names (show bindNs Γ σ1 es ds = some σd' from h)
          exact ⟨x :: ys, by unfold namesOf; rw [hy]; rfl⟩
    | _ => cases ds <;> simp [bindNs] at h
theorem bindNs_len : ∀ {es : List Expr} {ds : List D} {σd σd' : St}, bindNs Γ σd es ds = some σd' → es.length = ds.length
  | [], [], _, _, _ => rfl
  | [], d :: ds, _, _, h => by simp [bindNs] at h
  | e :: es, ds, σd, σd', h => by
    cases e with
    | Name x p =>
      cases ds with
      | nil => simp [bindNs] at h
      | cons d ds =>
        unfold bindNs at h
        cases h1 : setN Γ σd x d false with
        | none => rw [h1] at h; cases h
        | some σ1 =>
          rw [h1] at h
          rw [List.length_cons, List.length_cons, bindNs_len (show bindNs Γ σ1 es ds = some σd' from h)]
    | _ => cases ds <;> simp [bindNs] at h
theorem ownOf_mem {tg : Expr} {x : Str} {i : Nat} (h : x ∈ tgNames tg) (hi : Γ.N.idxOf? x = some i) : i ∈ (ownOf Γ.N tg).map (·.2) := by
  unfold ownOf
  rw [List.mem_map]
  exact ⟨(x, i), List.mem_filterMap.mpr ⟨x, h, by rw [hi]; rfl⟩, rfl⟩
theorem pg_I (g : Good U k Γ X W) (tg : Expr) : PG X tg (gOf U Γ tg ((ownOf Γ.N tg).map (·.2))) := by
  cases tg with
  | Name x p => exact pg_nameI g fun i hi => ownOf_mem (by simp [tgNames]) hi
  | Tuple es j p =>
    cases hn : namesOf es with
    | none =>
      refine ⟨fun pins s' σ H v u Q I r h => ?_⟩
      obtain ⟨H0, ow0, ow, σd, s, d, σd', S, r, hb, q⟩ := h
      unfold bindT0 at hb
      dsimp only at hb
      split at hb
      · obtain ⟨xs, hx⟩ := bindNs_names hb
        rw [hn] at hx; cases hx
      · cases hb
    | some xs =>
      obtain ⟨h1, h2⟩ := assign_names (env := X.env) hn
      have hp := pgs_I g (is := (ownOf Γ.N (.Tuple es j p)).map (·.2)) es fun x hx i hi => ownOf_mem (by simpa [tgNames] using hx) hi
      have p1 := pg_tup (k := j) (pos := p) g.calm hp h1 h2
      have p2 := pg_lst (k := j) (pos := p) g.calm hp h1 h2
      refine ⟨fun pins s' σ H v u Q I rr h => ?_⟩
      obtain ⟨H0, ow0, ow, σd, s, d, σd', S, r, hb, q⟩ := h
      unfold bindT0 at hb
      dsimp only at hb
      split at hb
      · rename_i ds hd
        have hl := bindNs_len hb
        cases d with
        | list es' =>
          cases hd
          obtain ⟨a, ys, e1, h3, h4⟩ := Pk.list (.inl r)
          exact p2.run pins s' σ H v u Q I rr ⟨a, ys, e1, .inl (.inl h3), by rw [hl, h4.length], H0, ow0, ow, σd, s, ds, σd', S, h4, hb, q⟩
        | tuple es' =>
          cases hd
          obtain ⟨a, ys, e1, h3, h4⟩ := Pk.tuple (.inl r)
          exact p1.run pins s' σ H v u Q I rr ⟨a, ys, e1, by rw [g.K]; exact h3, by rw [hl, h4.length], H0, ow0, ow, σd, s, ds, σd', S, h4, hb, q⟩
        | _ => cases hd
      · cases hb
  | _ =>
    refine ⟨fun pins s' σ H v u Q I r h => ?_⟩
    obtain ⟨H0, ow0, ow, σd, s, d, σd', S, r, hb, q⟩ := h
    simp [bindT0] at hb
end
end Py

set_option Elab.async false
set_option linter.all false
set_option maxRecDepth 100000
set_option maxHeartbeats 1000000
namespace Py
open PySem PySem.Spec PyProof.Rows L2
section
variable {U : Wd} {k : Nat} {Γ : Cxt} {X : Cx} {W : WX} {G : Gs} {ow ow0 : Ow} {H H0 : Hp} {s : DS} {σ : L2.St} {σd : St}
/-- nothing leaves -/
def W0 : WX := fun _ _ _ _ => False
theorem good_blk (g : Good U k Γ X W) {s : Shared} {H : Hp} {scope : Scope} {C : Addr} {cl : List (Str × Addr)} {fp : List Addr} :
    Good U k ⟨Γ.N, L2.relS scope Γ.sc, scope⟩ (X.blk s H scope (compEnvC scope cl C X.env) fp) W0 where
  P := g.P
  w := g.w
  K := g.K
  mg := g.mg
  base := g.base
  N := g.N
  sc := by
    show relabel scope X.env = relS scope Γ.sc
    rw [← g.sc]
    rfl
  nd := g.nd
  calm := g.calm
  room := g.room
  tk := takes0
  stl := fun x h => lookup_relS_keep (sc := Γ.sc) (by decide) h
  stc := fun x h => ⟨lookup_relS_keep (sc := Γ.sc) (by decide) h, by
    show (scope.names.lookup x == some .cell) = true
    rw [h]
    rfl⟩
theorem SR.wipe (S : SR U H0 ow0 ow σ H σd s) (is : List Nat) : SR U H0 ow0 ow (L2.wipe σ is) H (Py.wipe σd is) s := by
  have hl : ∀ (is : List Nat), (Py.wipe σd is).length = σd.length := fun is => by
    induction is with
    | nil => rfl
    | cons i is ih => unfold Py.wipe; rw [List.length_set, ih]
  refine ⟨S.trk, S.capo, S.cello, S.own0, S.agr, S.base, fun j e o h => ?_, S.cap, by rw [hl, L2.wipe_length]; exact S.len⟩
  have key : ∀ (is : List Nat), (Py.wipe σd is)[j]? = some (some (e, o)) → σd[j]? = some (some (e, o)) ∧ j ∉ is := fun is => by
    induction is with
    | nil => intro h; exact ⟨h, by simp⟩
    | cons i is ih =>
      intro h
      unfold Py.wipe at h
      by_cases hi : i = j
      · subst hi
        by_cases hv : i < (Py.wipe σd is).length
        · rw [List.getElem?_set_self hv] at h; cases h
        · rw [List.getElem?_eq_none (by simpa using hv)] at h; cases h
      · rw [List.getElem?_set_ne hi] at h
        obtain ⟨h1, h2⟩ := ih h
        exact ⟨h1, by simp only [List.mem_cons, not_or]; exact ⟨fun z => hi z.symm, h2⟩⟩
  obtain ⟨h1, h2⟩ := key is h
  obtain ⟨v, h3, h4, h5⟩ := S.slots j e o h1
  exact ⟨v, by rw [wipe_out h2]; exact h3, h4, h5⟩
/-- the tests of a comprehension -/
theorem pts_I {f : St → Expr → M D} (hT : ∀ e, PT X e (tOfT U W (fun σ => tst (f σ) e))) : ∀ ifs : List Expr, PTs X ifs (tOfT U W (fun σ => ifsE (f σ) ifs))
  | [] => ⟨fun pins s' σ H Q I h => pts_nil.run pins s' σ H Q I (by
      obtain ⟨H0, ow0, ow, σd, s, S, w⟩ := h
      exact (show Wp (pure true) s _ _ from w).of_pure H Ext.refl S.cap)⟩
  | [c] => pts_one (hT c)
  | _ :: _ :: _ => ⟨fun pins s' σ H Q I h => by
      obtain ⟨H0, ow0, ow, σd, s, S, w⟩ := h
      exact (show Wp fail s _ _ from w).of_fail.elim⟩
theorem Wp.ex {α : Type} {m : M α} {s : DS} {Q : α → DS → Prop} (h : Wp m s Q fun _ _ => False) : ∃ a s', Q a s' := by
  unfold Wp at h
  split at h
  · exact ⟨_, _, h⟩
  · exact h.elim
  · exact h.elim
/-- what a comprehension makes, from the items at i on -/
theorem compL_wp {Γ : Cxt} {tg : Expr} {f : St → M Bool} {gg : St → M D} {items : List D} {Q : List D → DS → Prop} {E : Exc → DS → Prop} {d : D} (w : Wp (compL (fun d => bindT Γ σd tg d) f gg (d :: items)) s Q E) :
    ∃ σ', bindT Γ σd tg d = some σ' ∧ Wp (f σ') s (fun b s1 => if b = true then Wp (gg σ') s1 (fun y s2 => Wp (compL (fun d => bindT Γ σd tg d) f gg items) s2 (fun ys s3 => Q (y :: ys) s3) E) E else Wp (compL (fun d => bindT Γ σd tg d) f gg items) s1 Q E) E := by
  unfold compL at w
  have w := w.of_bind
  unfold lift at w
  cases hb : bindT Γ σd tg d with
  | none => rw [hb] at w; exact w.of_fail.elim
  | some σ' =>
    rw [hb] at w
    refine ⟨σ', rfl, w.of_pure.of_bind.mono (fun b s1 h => ?_) fun _ _ h => h⟩
    cases b with
    | true =>
      rw [if_pos rfl] at h ⊢
      exact h.of_bind.mono (fun y s2 h2 => h2.of_bind.mono (fun ys s3 h3 => h3.of_pure) fun _ _ h => h) fun _ _ h => h
    | false =>
      rw [if_neg (by decide)] at h ⊢
      exact h
/-- the new list is owned by none of the slots -/
def owD (ow : Ow) (D : Addr) : Ow := fun b => if b = D then some 0 else ow b
theorem SR.grownU (S : SR U H0 ow0 ow σ H σd s) {D : Addr} (hD : H D = none) {u0 : HO} (hu0 : ∀ xs, u0 ≠ .tup xs) {H' : Hp} {s' : DS} (e : Ext U H H') (c : Cap U H' s') (h' : H' D = some u0) : SR U H0 ow0 (owD ow D) σ H' σd s' := by
  have hc := S.nocap hD
  have hne : ∀ a u, H a = some u → a ≠ D := fun a u h => ne_of_none h hD
  have kp : Keep U ow (owD ow D) H H' := fun a u ha ho hu => ⟨e a u ha hu, by unfold owD; rw [if_neg (hne a u hu)]; exact ho⟩
  refine ⟨fun a h => ?_, ?_, ?_, fun a i h => ?_, fun a u h => ?_, S.base.trans e, fun j d o h => ?_, c, S.len⟩
  · by_cases hd : a = D
    · subst hd; exact ⟨_, h', hu0⟩
    · unfold owD at h
      rw [if_neg hd] at h
      obtain ⟨u, hu, ht⟩ := S.trk a h
      exact ⟨u, e a u (fun z => by rw [z] at h; exact h S.capo) hu, ht⟩
  · unfold owD; rw [if_neg (fun z => hc z.symm)]; exact S.capo
  · unfold owD
    rw [if_neg (fun z => by rw [← z, S.cap.cells] at hD; cases hD)]
    exact S.cello
  · unfold owD at h
    split at h
    · cases h
    · exact S.own0 a i h
  · unfold owD
    have hH : a ≠ D := fun z => by
      subst z
      rw [S.base a u hc h] at hD; cases hD
    rw [if_neg hH]
    exact S.agr a u h
  · obtain ⟨v, h1, h2, h3⟩ := S.slots j d o h
    refine ⟨v, h1, fun z => Rp.mono kp d v (h2 z), fun z => ?_⟩
    obtain ⟨a, u, e2, k1, k2, k3, r⟩ := h3 z
    exact ⟨a, u, e2, e a _ k3 k1, by unfold owD; rw [if_neg (hne a _ k1)]; exact k2, k3, Sh.mono kp r⟩
theorem SR.grown (S : SR U H0 ow0 ow σ H σd s) {D : Addr} (hD : H D = none) {acc : List V} {H' : Hp} {s' : DS} (e : Ext U H H') (c : Cap U H' s') (h' : H' D = some (.lst acc)) : SR U H0 ow0 (owD ow D) σ H' σd s' := S.grownU (u0 := .lst acc) hD (fun _ z => nomatch z) e c h'
theorem keepD {D : Addr} {H : Hp} {i : Option Nat} : Keep U (owD ow D) (fun b => if b = D then i else ow b) H H := fun a u _ ho e => ⟨e, by
  unfold owD at ho
  by_cases h : a = D
  · subst h; rw [if_pos rfl] at ho; cases ho
  · rw [if_neg h] at ho
    show (if a = D then i else ow a) = none
    rw [if_neg h]; exact ho⟩
/-- changing the new list leaves what is shared -/
theorem keepU {D : Addr} {H : Hp} {o : HO} : Keep U (owD ow D) (owD ow D) H (upd H D o) := fun a u _ ho e => by
  have : a ≠ D := fun z => by subst z; unfold owD at ho; rw [if_pos rfl] at ho; cases ho
  exact ⟨by rw [upd_ne this]; exact e, ho⟩
theorem comp_imp (g : Good U k Γ X W) {elt tg : Expr} {ifs : List Expr} {sc : Scope} {fi : St → M (List D)} {rec : St → Expr → M D} {σ : L2.St} {H : Hp} {Q : VK} (h : tOf U W (fun σ => do
      let items ← fi σ
      let ys ← compB rec ⟨Γ.N, L2.relS sc Γ.sc, sc⟩ (Py.wipe σ ((ownOf Γ.N tg).map (·.2))) tg ifs elt items
      if ys.length ≤ sline then pure (.list ys) else fail) isL σ H Q) :
    tLc (tOfI U W fi (RlE U)) (gOf U ⟨Γ.N, L2.relS sc Γ.sc, sc⟩ tg ((ownOf Γ.N tg).map (·.2))) (tOfT U W0 (fun σ => ifsE (rec σ) ifs)) (tOf U W0 (fun σ => rec σ elt) fun _ => false) ((ownOf Γ.N tg).map (·.2)) σ H Q := by
  obtain ⟨H0, ow0, ow, σd, s, S, w⟩ := h
  refine ⟨H0, ow0, ow, σd, s, S, w.of_bind.mono (fun items s1 h1 J H1 e1 c1 ito => ?_) fun _ _ h => h⟩
  intro Da hD
  have S1 := S.ext e1 c1
  have w1 := quiet_wp (show Wp (quiet _) s1 _ _ from h1.of_bind)
  refine ⟨fun i m H' => m = items.length - i ∧ i ≤ items.length ∧ ∃ acc ys si, H' Da = some (.lst acc) ∧ Ext U H1 H' ∧ Cap U H' si ∧ RpL U (owD ow Da) H' ys acc ∧
      Wp (compL (fun d => bindT ⟨Γ.N, L2.relS sc Γ.sc, sc⟩ (Py.wipe σd ((ownOf Γ.N tg).map (·.2))) tg d) (fun σ' => ifsE (rec σ') ifs) (fun σ' => rec σ' elt) (items.drop i)) si
        (fun zs s' => (ys ++ zs).length ≤ sline ∧ PostE U ow isL H Q (.list (ys ++ zs)) s') (fun _ _ => False), ⟨items.length, by simp, Nat.zero_le _, [], [], s1, upd_same, Ext.new hD, c1.new hD, RpL.nil, ?_⟩, ?_⟩
  · rw [List.drop_zero]
    exact w1.mono (fun zs s' h => by obtain ⟨hl, h⟩ := h.of_guard; exact ⟨by simpa using hl, by simpa using h.of_pure⟩) fun _ _ h => h
  · rintro i m H' ⟨rfl, hi', acc, ys, si, hDa, e', c', r, w'⟩
    have S2 := S1.grown hD e' c' hDa
    have hr : RlE U ow H1 (owD ow Da) H' := ⟨fun a u hu => by unfold owD; rw [if_neg (ne_of_none hu hD)], e'⟩
    obtain ⟨hgo, hstop⟩ := ito (owD ow Da) H' si hr S2.hk
    by_cases hlt : i < items.length
    · have hx : items[i]? = some items[i] := List.getElem?_eq_getElem hlt
      obtain ⟨go, hy⟩ := hgo i _ hx
      have hdr : items.drop i = items[i] :: items.drop (i + 1) := List.drop_eq_getElem_cons hlt
      rw [hdr] at w'
      refine .inr ⟨go, _, fun H'' z => ⟨items.length - (i + 1), by omega, rfl, hlt, z⟩, fun x H3 yl => ?_⟩
      obtain ⟨e3, c3, rx⟩ := hy x H3 yl
      have hD3 := e3 Da _ (S1.nocap hD) hDa
      have S3 : SR U H0 ow0 (owD ow Da) σ H3 σd si := S2.ext e3 c3
      obtain ⟨σ2d, hbT, w3⟩ := compL_wp w'
      refine ⟨H0, ow0, owD ow Da, _, si, items[i], σ2d, S3.wipe _, rx, bindT_to hbT, fun σ2 S4 sb => ⟨?_, ?_⟩⟩
      · rw [sb.wipe]
        exact (SameBut.wipe (σ := σ) (σ' := L2.wipe σ _) ⟨L2.wipe_length _ _, fun j hj => wipe_out hj⟩)
      · refine ⟨H0, ow0, owD ow Da, σ2d, si, S4, w3.mono (fun b s4 h4 H4 e4 c4 => ?_) fun _ _ z => z.elim⟩
        have hD4 := e4 Da _ (S1.nocap hD) hD3
        have r4 : RpL U (owD ow Da) H4 ys acc := (r.ext e3).ext e4
        have e14 : Ext U H1 H4 := (e'.trans e3).trans e4
        cases b with
        | false =>
          rw [if_neg (by decide)] at h4
          refine id ?_
          simp only [Bool.false_eq_true, if_false]
          exact ⟨acc, ys, s4, hD4, e14, c4, r4, h4⟩
        | true =>
          rw [if_pos rfl] at h4
          refine id ?_
          simp only [if_true]
          refine ⟨H0, ow0, owD ow Da, σ2d, s4, S4.ext e4 c4, h4.mono (fun y s5 h5 v5 H5 e5 c5 r5 _ => ?_) fun _ _ z => z.elim⟩
          have hD5 := e5 Da _ (S1.nocap hD) hD4
          have hlen : acc.length < sizeLine := by
            obtain ⟨zs, s6, h6⟩ := h5.ex
            have h7 : (ys ++ y :: zs).length ≤ sizeLine := h6.1
            have h8 := r4.length
            rw [List.length_append, List.length_cons] at h7
            omega
          refine ⟨acc, hD5, hlen, acc ++ [v5], ys ++ [y], s5, upd_same, fun a u ha hu => ?_, ?_, ?_, ?_⟩
          · rw [upd_ne (ne_of_none hu hD)]
            exact e5 a u ha (e14 a u ha hu)
          · exact ⟨by rw [upd_ne (fun z => S1.nocap hD z.symm)]; exact c5.row, by rw [upd_ne (fun z => by rw [← z, S1.cap.cells] at hD; cases hD)]; exact c5.cells, c5.ne⟩
          · exact RpL.mono keepU _ _ ((r4.ext e5).append (RpL.cons r5 RpL.nil))
          · exact h5.mono (fun zs s6 h6 => by simpa using h6) fun _ _ h => h
    · have hi2 : i = items.length := by omega
      subst hi2
      rw [List.drop_length] at w'
      obtain ⟨hl, q⟩ := (show Wp (pure []) si _ _ from w').of_pure
      rw [List.append_nil] at q
      refine .inl ⟨hstop, q (.ref Da) H' (e1.trans e') c' ?_ fun _ => ⟨Da, _, rfl, e1.none (S1.nocap hD) hD, hDa, S1.nocap hD, fun j => .inl ⟨ys, acc, rfl, rfl, RpL.mono keepD _ _ r⟩⟩⟩
      unfold Rp
      refine ⟨Da, acc, rfl, ⟨hDa, S1.noow hD, S1.nocap hD⟩, ?_⟩
      refine RpL.mono (fun a u _ ho e => ⟨e, ?_⟩) _ _ r
      unfold owD at ho
      by_cases h : a = Da
      · subst h; exact S1.noow hD
      · rw [if_neg h] at ho; exact ho
theorem pe_comp (g : Good U k Γ X W) {elt tg it : Expr} {ifs : List Expr} {sc : Scope} {pos : Pos} {fi : St → M (List D)} {rec : St → Expr → M D} (hi : PI X tg it (tOfI U W fi (RlE U))) (hs : ∀ x, foldedSetIterable it X.env x = pure x)
    (hb : L2.blkC Γ.N Γ.sc sc (ownOf Γ.N tg) = true)
    (hT : ∀ (Y : Cx), Good U k ⟨Γ.N, L2.relS sc Γ.sc, sc⟩ Y W0 → ∀ e, PT Y e (tOfT U W0 (fun σ => tst (rec σ) e)))
    (hE : ∀ (Y : Cx), Good U k ⟨Γ.N, L2.relS sc Γ.sc, sc⟩ Y W0 → ∀ e, PE Y e (tOf U W0 (fun σ => rec σ e) fun _ => false)) :
    PE X (.ListComp elt [⟨tg, it, ifs, 0⟩] sc pos) (tOf U W (fun σ => do
      let items ← fi σ
      let ys ← compB rec ⟨Γ.N, L2.relS sc Γ.sc, sc⟩ (Py.wipe σ ((ownOf Γ.N tg).map (·.2))) tg ifs elt items
      if ys.length ≤ sline then pure (.list ys) else fail) isL) := by
  have ok : BlkOk X.N X.env.scope sc (ownOf Γ.N tg) := by rw [g.N, g.sc]; exact blkOk_by hb
  exact PE.imp (pe_lc (g := gOf U ⟨Γ.N, L2.relS sc Γ.sc, sc⟩ tg ((ownOf Γ.N tg).map (·.2))) (tt := tOfT U W0 (fun σ => ifsE (rec σ) ifs)) (te := tOf U W0 (fun σ => rec σ elt) fun _ => false) g.calm (by rw [g.N]; exact g.nd) hi ok
    (fun s H C cl fp => pg_I (good_blk g) tg) (fun s H C cl fp => pts_I (hT _ (good_blk g)) ifs) (fun s H C cl fp => hE _ (good_blk g) elt) hs) fun σ H Q h => comp_imp g h
end
end Py

set_option Elab.async false
set_option linter.all false
set_option maxRecDepth 100000
set_option maxHeartbeats 1000000
/-! comprehensions of two walks -/
namespace Py
open PySem PySem.Spec PyProof.Rows L2
section
variable {U : Wd} {k : Nat} {Γ : Cxt} {X : Cx} {W : WX} {G : Gs} {H0 H H1 : Hp} {ow0 ow : Ow} {σ : L2.St} {σd : St} {s s1 : DS}
/-- only the new list has changed -/
theorem SR.regrown {D : Addr} (S : SR U H0 ow0 (owD ow D) σ H σd s) (h0 : H0 D = none) (hc : D ≠ U.cap) (hcl : D ≠ U.cell) {acc : List V} {H' : Hp} {s' : DS} (e : ∀ a u, a ≠ U.cap → a ≠ D → H a = some u → H' a = some u) (c : Cap U H' s') (h' : H' D = some (.lst acc)) : SR U H0 ow0 (owD ow D) σ H' σd s' := by
  have kp : Keep U (owD ow D) (owD ow D) H H' := fun a u ha ho hu => ⟨e a u ha (fun z => by subst z; unfold owD at ho; rw [if_pos rfl] at ho; cases ho) hu, ho⟩
  refine ⟨fun a h => ?_, S.capo, S.cello, S.own0, S.agr, fun a u ha hu => e a u ha (fun z => by rw [z, h0] at hu; cases hu) (S.base a u ha hu), fun j d o h => ?_, c, S.len⟩
  · by_cases hd : a = D
    · subst hd; exact ⟨_, h', fun xs z => nomatch z⟩
    · obtain ⟨u, hu, ht⟩ := S.trk a h
      exact ⟨u, e a u (fun z => by rw [z] at h; exact h S.capo) hd hu, ht⟩
  · obtain ⟨v, h1, h2, h3⟩ := S.slots j d o h
    refine ⟨v, h1, fun z => Rp.mono kp d v (h2 z), fun z => ?_⟩
    obtain ⟨a, u, e2, k1, k2, k3, r⟩ := h3 z
    refine ⟨a, u, e2, e a _ k3 (fun z => ?_) k1, k2, k3, Sh.mono kp r⟩
    subst z
    unfold owD at k2
    rw [if_pos rfl] at k2
    cases k2
/-- the rest of two walks -/
theorem compL2_wp {Γ : Cxt} {tg : Expr} {f : St → M Bool} {it : St → M (List D)} {vs : List Nat} {b2 : St → D → Option St} {f2 : St → M Bool} {gg : St → M D} {items : List D} {Q : List D → DS → Prop} {E : Exc → DS → Prop} {d : D} (w : Wp (compL2 (fun d => bindT Γ σd tg d) f it vs b2 f2 gg (d :: items)) s Q E) :
    ∃ σ', bindT Γ σd tg d = some σ' ∧ Wp (f σ') s (fun b s1 => if b = true then Wp (it σ') s1 (fun es s2 => Wp (compL (fun e => b2 (Py.wipe σ' vs) e) f2 gg es) s2 (fun ys s3 => Wp (compL2 (fun d => bindT Γ σd tg d) f it vs b2 f2 gg items) s3 (fun zs s4 => Q (ys ++ zs) s4) E) E) E else Wp (compL2 (fun d => bindT Γ σd tg d) f it vs b2 f2 gg items) s1 Q E) E := by
  unfold compL2 at w
  have w := w.of_bind
  unfold lift at w
  cases hb : bindT Γ σd tg d with
  | none => rw [hb] at w; exact w.of_fail.elim
  | some σ' =>
    rw [hb] at w
    refine ⟨σ', rfl, w.of_pure.of_bind.mono (fun b s1 h => ?_) fun _ _ h => h⟩
    cases b with
    | true =>
      rw [if_pos rfl] at h ⊢
      exact h.of_bind.mono (fun es s2 h2 => h2.of_bind.mono (fun ys s3 h3 => h3.of_bind.mono (fun zs s4 h4 => h4.of_pure) fun _ _ h => h) fun _ _ h => h) fun _ _ h => h
    | false =>
      rw [if_neg (by decide)] at h ⊢
      exact h
/-- heaps that differ at the new list alone -/
def ExtD (U : Wd) (D : Addr) (H H' : Hp) : Prop := ∀ a u, a ≠ U.cap → a ≠ D → H a = some u → H' a = some u
theorem RpL.extD {D : Addr} {H H' : Hp} (e : ExtD U D H H') {ds : List Py.D} {xs : List V} (r : RpL U (owD ow D) H ds xs) : RpL U (owD ow D) H' ds xs :=
  RpL.mono (fun a u ha ho hu => ⟨e a u ha (fun z => by subst z; unfold owD at ho; rw [if_pos rfl] at ho; cases ho) hu, ho⟩) _ _ r
theorem comp2_imp (g : Good U k Γ X W) {elt tg tg1 it1 : Expr} {ifs ifs1 : List Expr} {sc : Scope} {fi : St → M (List D)} {rec : St → Expr → M D} {σ : L2.St} {H : Hp} {Q : VK} (h : tOf U W (fun σ => do
      let items ← fi σ
      let ys ← compB2 G rec ⟨Γ.N, L2.relS sc Γ.sc, sc⟩ (Py.wipe σ ((own2 Γ.N tg tg1).map (·.2))) tg ifs tg1 it1 ifs1 elt items
      if ys.length ≤ sline then pure (.list ys) else fail) isL σ H Q) :
    tLc2 (tOfI U W fi (RlE U)) (gOf U ⟨Γ.N, L2.relS sc Γ.sc, sc⟩ tg ((ownOf Γ.N tg).map (·.2))) (tOfT U W0 (fun σ => ifsE (rec σ) ifs))
      (tOfI U W0 (fun σ => iterE G ⟨Γ.N, L2.relS sc Γ.sc, sc⟩ (rec σ) tg1 it1) (RlK U)) (gOf U ⟨Γ.N, L2.relS sc Γ.sc, sc⟩ tg1 ((ownOf Γ.N tg1).map (·.2))) (tOfT U W0 (fun σ => ifsE (rec σ) ifs1)) (tOf U W0 (fun σ => rec σ elt) fun _ => false) ((own2 Γ.N tg tg1).map (·.2)) ((ownOf Γ.N tg1).map (·.2)) σ H Q := by
  obtain ⟨H0, ow0, ow, σd, s, S, w⟩ := h
  refine ⟨H0, ow0, ow, σd, s, S, w.of_bind.mono (fun items s1 h1 J H1 e1 c1 ito => ?_) fun _ _ h => h⟩
  intro Da hD
  have S1 := S.ext e1 c1
  have hcap := S1.nocap hD
  have hcell : Da ≠ U.cell := fun z => by rw [z, S1.cap.cells] at hD; cases hD
  have h0D : H0 Da = none := by
    cases hh : H0 Da with
    | none => rfl
    | some u => rw [S1.base Da u hcap hh] at hD; cases hD
  have w1 := quiet_wp (show Wp (quiet _) s1 _ _ from h1.of_bind)
  -- what is left of the walks, ys being made
  let rest : List D → List D → M (List D) := fun items ys => compL2 (fun d => bindT ⟨Γ.N, L2.relS sc Γ.sc, sc⟩ (Py.wipe σd ((own2 Γ.N tg tg1).map (·.2))) tg d) (fun σ' => ifsE (rec σ') ifs) (fun σ' => iterE G ⟨Γ.N, L2.relS sc Γ.sc, sc⟩ (rec σ') tg1 it1) ((ownOf Γ.N tg1).map (·.2)) (fun σ d => bindT ⟨Γ.N, L2.relS sc Γ.sc, sc⟩ σ tg1 d) (fun σ' => ifsE (rec σ') ifs1) (fun σ' => rec σ' elt) items
  let Fin : List D → DS → Prop := fun zs s' => zs.length ≤ sline ∧ PostE U ow isL H Q (.list zs) s'
  refine ⟨fun i m H' => m = items.length - i ∧ i ≤ items.length ∧ ∃ acc ys si, H' Da = some (.lst acc) ∧ Ext U H1 H' ∧ Cap U H' si ∧ RpL U (owD ow Da) H' ys acc ∧
      Wp (rest (items.drop i) ys) si (fun zs s' => Fin (ys ++ zs) s') (fun _ _ => False), ⟨items.length, by simp, Nat.zero_le _, [], [], s1, upd_same, Ext.new hD, c1.new hD, RpL.nil, ?_⟩, ?_⟩
  · rw [List.drop_zero]
    exact w1.mono (fun zs s' h => by obtain ⟨hl, h⟩ := h.of_guard; exact ⟨by simpa using hl, by simpa using h.of_pure⟩) fun _ _ h => h
  · rintro i m H' ⟨rfl, hi', acc, ys, si, hDa, e', c', r, w'⟩
    have S2 := S1.grown hD e' c' hDa
    have hr : RlE U ow H1 (owD ow Da) H' := ⟨fun a u hu => by unfold owD; rw [if_neg (ne_of_none hu hD)], e'⟩
    obtain ⟨hgo, hstop⟩ := ito (owD ow Da) H' si hr S2.hk
    by_cases hlt : i < items.length
    · have hx : items[i]? = some items[i] := List.getElem?_eq_getElem hlt
      obtain ⟨go, hy⟩ := hgo i _ hx
      have hdr : items.drop i = items[i] :: items.drop (i + 1) := List.drop_eq_getElem_cons hlt
      rw [hdr] at w'
      refine .inr ⟨go, (fun H'' => ∃ acc ys si, H'' Da = some (.lst acc) ∧ Ext U H1 H'' ∧ Cap U H'' si ∧ RpL U (owD ow Da) H'' ys acc ∧
        Wp (rest (items.drop (i + 1)) ys) si (fun zs s' => Fin (ys ++ zs) s') (fun _ _ => False)), fun H'' z => ⟨items.length - (i + 1), by omega, rfl, hlt, z⟩, fun x H3 yl => ?_⟩
      obtain ⟨e3, c3, rx⟩ := hy x H3 yl
      have hD3 := e3 Da _ hcap hDa
      have S3 : SR U H0 ow0 (owD ow Da) σ H3 σd si := S2.ext e3 c3
      obtain ⟨σ2d, hbT, w3⟩ := compL2_wp w'
      have hsub : ∀ j ∈ (ownOf Γ.N tg).map (·.2), j ∈ (own2 Γ.N tg tg1).map (·.2) := fun j hj => by unfold own2; rw [List.map_append]; exact List.mem_append_left _ hj
      refine ⟨H0, ow0, owD ow Da, _, si, items[i], σ2d, S3.wipe _, rx, bindT_to hbT, fun σ2 S4 sb => ⟨?_, ?_⟩⟩
      · have sb2 := SameBut.trans (SameBut.refl (is := (ownOf Γ.N tg).map (·.2)) (σ := L2.wipe σ ((own2 Γ.N tg tg1).map (·.2)))) (SameBut.trans sb (SameBut.refl (is := (own2 Γ.N tg tg1).map (·.2))) hsub) hsub
        rw [sb2.wipe]
        exact (SameBut.wipe (σ := σ) (σ' := L2.wipe σ _) ⟨L2.wipe_length _ _, fun j hj => wipe_out hj⟩)
      · refine ⟨H0, ow0, owD ow Da, σ2d, si, S4, w3.mono (fun b s4 h4 H4 e4 c4 => ?_) fun _ _ z => z.elim⟩
        have hD4 := e4 Da _ hcap hD3
        have r4 : RpL U (owD ow Da) H4 ys acc := (r.ext e3).ext e4
        have e14 : Ext U H1 H4 := (e'.trans e3).trans e4
        cases b with
        | false =>
          rw [if_neg (by decide)] at h4
          refine id ?_
          simp only [Bool.false_eq_true, if_false]
          exact ⟨acc, ys, s4, hD4, e14, c4, r4, h4⟩
        | true =>
          rw [if_pos rfl] at h4
          refine id ?_
          simp only [if_true]
          refine ⟨H0, ow0, owD ow Da, σ2d, s4, S4.ext e4 c4, h4.mono (fun es s5 h5 J1 H5 e5 c5 ito1 => ?_) fun _ _ z => z.elim⟩
          have S5 : SR U H0 ow0 (owD ow Da) σ2 H5 σ2d s5 := (S4.ext e4 c4).ext e5 c5
          have hD5 := e5 Da _ hcap hD4
          refine ⟨fun j kk H' => kk = es.length - j ∧ j ≤ es.length ∧ ∃ acc ys si, H' Da = some (.lst acc) ∧ ExtD U Da H5 H' ∧ Ext U H1 H' ∧ Cap U H' si ∧ RpL U (owD ow Da) H' ys acc ∧
            Wp (compL (fun e => bindT ⟨Γ.N, L2.relS sc Γ.sc, sc⟩ (Py.wipe σ2d ((ownOf Γ.N tg1).map (·.2))) tg1 e) (fun σ' => ifsE (rec σ') ifs1) (fun σ' => rec σ' elt) (es.drop j)) si
              (fun us s3 => Wp (rest (items.drop (i + 1)) (ys ++ us)) s3 (fun zs s4 => Fin ((ys ++ us) ++ zs) s4) (fun _ _ => False)) (fun _ _ => False),
            ⟨es.length, by simp, Nat.zero_le _, acc, ys, s5, hD5, fun a u _ _ h => h, e14.trans e5, c5, r4.ext e5, ?_⟩, ?_⟩
          · rw [List.drop_zero]
            exact h5.mono (fun us s3 h => h.mono (fun zs s4 h => by rw [List.append_assoc]; exact h) fun _ _ h => h) fun _ _ h => h
          · rintro j kk H6 ⟨rfl, hj', acc6, ys6, s6, hD6, ed6, e16, c6, r6, w6⟩
            have S6 : SR U H0 ow0 (owD ow Da) σ2 H6 σ2d s6 := S5.regrown h0D hcap hcell ed6 c6 hD6
            have hr6 : RlK U (owD ow Da) H5 (owD ow Da) H6 := fun a u ha ho hu => ⟨ed6 a u ha (fun z => by subst z; unfold owD at ho; rw [if_pos rfl] at ho; cases ho) hu, ho⟩
            obtain ⟨hgo6, hstop6⟩ := ito1 (owD ow Da) H6 s6 hr6 S6.hk
            by_cases hlt6 : j < es.length
            · have hx6 : es[j]? = some es[j] := List.getElem?_eq_getElem hlt6
              obtain ⟨go6, hy6⟩ := hgo6 j _ hx6
              have hdr6 : es.drop j = es[j] :: es.drop (j + 1) := List.drop_eq_getElem_cons hlt6
              rw [hdr6] at w6
              refine .inr ⟨go6, _, fun H'' z => ⟨es.length - (j + 1), by omega, rfl, hlt6, z⟩, fun x H7 yl => ?_⟩
              obtain ⟨e7, c7, rx7⟩ := hy6 x H7 yl
              have hD7 := e7 Da _ hcap hD6
              have S7 : SR U H0 ow0 (owD ow Da) σ2 H7 σ2d s6 := S6.ext e7 c7
              obtain ⟨σ3d, hbT7, w7⟩ := compL_wp w6
              refine ⟨H0, ow0, owD ow Da, _, s6, es[j], σ3d, S7.wipe _, rx7, bindT_to hbT7, fun σ3 S8 sb => ⟨?_, ?_⟩⟩
              · rw [sb.wipe]
                exact (SameBut.wipe (σ := σ2) (σ' := L2.wipe σ2 _) ⟨L2.wipe_length _ _, fun j hj => wipe_out hj⟩)
              · refine ⟨H0, ow0, owD ow Da, σ3d, s6, S8, w7.mono (fun b s8 h8 H8 e8 c8 => ?_) fun _ _ z => z.elim⟩
                have hD8 := e8 Da _ hcap hD7
                have r8 : RpL U (owD ow Da) H8 ys6 acc6 := (r6.ext e7).ext e8
                have e18 : Ext U H1 H8 := (e16.trans e7).trans e8
                have ed8 : ExtD U Da H5 H8 := fun a u ha hd hu => e8 a u ha (e7 a u ha (ed6 a u ha hd hu))
                cases b with
                | false =>
                  rw [if_neg (by decide)] at h8
                  refine id ?_
                  simp only [Bool.false_eq_true, if_false]
                  exact ⟨acc6, ys6, s8, hD8, ed8, e18, c8, r8, h8⟩
                | true =>
                  rw [if_pos rfl] at h8
                  refine id ?_
                  simp only [if_true]
                  refine ⟨H0, ow0, owD ow Da, σ3d, s8, S8.ext e8 c8, h8.mono (fun y s9 h9 v9 H9 e9 c9 r9 _ => ?_) fun _ _ z => z.elim⟩
                  have hD9 := e9 Da _ hcap hD8
                  have hlen : acc6.length < sizeLine := by
                    obtain ⟨us, s10, h10⟩ := h9.ex
                    obtain ⟨zs, s11, h11⟩ := h10.ex
                    have h12 : ((ys6 ++ y :: us) ++ zs).length ≤ sizeLine := h11.1
                    have h13 := r8.length
                    rw [List.length_append, List.length_append, List.length_cons] at h12
                    omega
                  refine ⟨acc6, hD9, hlen, acc6 ++ [v9], ys6 ++ [y], s9, upd_same, fun a u ha hd hu => ?_, fun a u ha hu => ?_, ?_, ?_, ?_⟩
                  · rw [upd_ne hd]
                    exact e9 a u ha (ed8 a u ha hd hu)
                  · rw [upd_ne (ne_of_none hu hD)]
                    exact e9 a u ha (e18 a u ha hu)
                  · exact ⟨by rw [upd_ne (fun z => hcap z.symm)]; exact c9.row, by rw [upd_ne (fun z => hcell z.symm)]; exact c9.cells, c9.ne⟩
                  · exact RpL.mono keepU _ _ ((r8.ext e9).append (RpL.cons r9 RpL.nil))
                  · exact h9.mono (fun us s10 h10 => by simpa using h10) fun _ _ h => h
            · have hj2 : j = es.length := by omega
              subst hj2
              rw [List.drop_length] at w6
              have q := (show Wp (pure []) s6 _ _ from w6).of_pure
              rw [List.append_nil] at q
              exact .inl ⟨hstop6, acc6, ys6, s6, hD6, e16, c6, r6, q⟩
    · have hi2 : i = items.length := by omega
      subst hi2
      rw [List.drop_length] at w'
      obtain ⟨hl, q⟩ := (show Wp (pure []) si _ _ from w').of_pure
      rw [List.append_nil] at q
      refine .inl ⟨hstop, q (.ref Da) H' (e1.trans e') c' ?_ fun _ => ⟨Da, _, rfl, e1.none hcap hD, hDa, hcap, fun j => .inl ⟨ys, acc, rfl, rfl, RpL.mono keepD _ _ r⟩⟩⟩
      unfold Rp
      refine ⟨Da, acc, rfl, ⟨hDa, S1.noow hD, hcap⟩, ?_⟩
      refine RpL.mono (fun a u _ ho e => ⟨e, ?_⟩) _ _ r
      unfold owD at ho
      by_cases h : a = Da
      · subst h; exact S1.noow hD
      · rw [if_neg h] at ho; exact ho
theorem hv2 {N : List Str} {tg tg1 : Expr} : ∀ i ∈ (ownOf N tg1).map (·.2), i ∈ (own2 N tg tg1).map (·.2) := fun j hj => by
  unfold own2
  rw [List.map_append]
  exact List.mem_append_right _ hj
theorem fold2 {it1 : Expr} (h : isSet it1 = false) : ∀ env x, foldedSetIterable it1 env x = pure x := fun env => fold_ok fun es j p z => by subst z; cases h
theorem pe_comp2 (g : Good U k Γ X W) (go : GlOk U k G) {elt tg it tg1 it1 : Expr} {ifs ifs1 : List Expr} {sc : Scope} {pos : Pos} {fi : St → M (List D)} {rec : St → Expr → M D} (hi : PI X tg it (tOfI U W fi (RlE U))) (hs : ∀ x, foldedSetIterable it X.env x = pure x)
    (hb : L2.blkC Γ.N Γ.sc sc (own2 Γ.N tg tg1) = true) (hset : isSet it1 = false)
    (hT : ∀ (Y : Cx), Good U k ⟨Γ.N, L2.relS sc Γ.sc, sc⟩ Y W0 → ∀ e, PT Y e (tOfT U W0 (fun σ => tst (rec σ) e)))
    (hE : ∀ (Y : Cx), Good U k ⟨Γ.N, L2.relS sc Γ.sc, sc⟩ Y W0 → ∀ e, PE Y e (tOf U W0 (fun σ => rec σ e) fun _ => false)) :
    PE X (.ListComp elt [⟨tg, it, ifs, 0⟩, ⟨tg1, it1, ifs1, 0⟩] sc pos) (tOf U W (fun σ => do
      let items ← fi σ
      let ys ← compB2 G rec ⟨Γ.N, L2.relS sc Γ.sc, sc⟩ (Py.wipe σ ((own2 Γ.N tg tg1).map (·.2))) tg ifs tg1 it1 ifs1 elt items
      if ys.length ≤ sline then pure (.list ys) else fail) isL) := by
  have ok : BlkOk X.N X.env.scope sc (own2 Γ.N tg tg1) := by rw [g.N, g.sc]; exact blkOk_by hb
  have hq : ∀ (Y : Cx), Good U k ⟨Γ.N, L2.relS sc Γ.sc, sc⟩ Y W0 → ∀ e, PE Y e (tOfQ U W0 (Rp U) (fun σ => rec σ e)) := fun Y gY e => PE.imp (hE Y gY e) fun σ H Q h => by
    obtain ⟨H0, ow0, ow, σd, s, S, w⟩ := h
    exact ⟨H0, ow0, ow, σd, s, S, w.mono (fun d s' q v H' e c r _ => q v H' e c r) fun _ _ h => h⟩
  exact PE.imp (pe_lc2 (g := gOf U ⟨Γ.N, L2.relS sc Γ.sc, sc⟩ tg ((ownOf Γ.N tg).map (·.2))) (tt := tOfT U W0 (fun σ => ifsE (rec σ) ifs)) (wi1 := tOfI U W0 (fun σ => iterE G ⟨Γ.N, L2.relS sc Γ.sc, sc⟩ (rec σ) tg1 it1) (RlK U)) (g1 := gOf U ⟨Γ.N, L2.relS sc Γ.sc, sc⟩ tg1 ((ownOf Γ.N tg1).map (·.2))) (tt1 := tOfT U W0 (fun σ => ifsE (rec σ) ifs1)) (te := tOf U W0 (fun σ => rec σ elt) fun _ => false) g.calm (by rw [g.N]; exact g.nd) hi ok hv2
    (fun s H C cl fp => pg_I (good_blk g) tg) (fun s H C cl fp => pts_I (hT _ (good_blk g)) ifs)
    (fun s H C cl fp => (pi_iterE (good_blk g) go (srcK U) (f := fun σ => rec σ) (hq _ (good_blk g))).1)
    (fun s H C cl fp => pg_I (good_blk g) tg1) (fun s H C cl fp => pts_I (hT _ (good_blk g)) ifs1) (fun s H C cl fp => hE _ (good_blk g) elt) hs (fold2 hset)) fun σ H Q h => comp2_imp g h
end
end Py

set_option Elab.async false
set_option linter.all false
set_option maxRecDepth 100000
set_option maxHeartbeats 1000000
namespace Py
open PySem PySem.Spec PyProof.Rows L2
/-! written dicts -/
section
variable {U : Wd} {k : Nat} {Γ : Cxt} {X : Cx} {W : WX} {G : Gs} {H0 H H1 : Hp} {ow0 ow : Ow} {σ : L2.St} {σd : St} {s s1 : DS}
def trsOf (U : Wd) (W : WX) (f : St → Expr → M D) : List (Option Expr) → List Expr → List (TE × TE)
  | some k :: ks, v :: vs => (tOf U W (fun σ => f σ k) fun _ => false, tOf U W (fun σ => f σ v) fun _ => false) :: trsOf U W f ks vs
  | _, _ => []
theorem pps_all {f : St → Expr → M D} (hE : ∀ e, PE X e (tOf U W (fun σ => f σ e) fun _ => false)) {pos : Pos} : ∀ (ks : List (Option Expr)) (vs : List Expr), ks.all (·.isSome) = true → ks.length = vs.length → PPs X pos ks vs (trsOf U W f ks vs)
  | [], [], _, _ => pps_nil
  | none :: ks, _, h, _ => by cases h
  | some k :: ks, v :: vs, h, hl => pps_cons (hE k) (hE v) (pps_all hE ks vs (by simpa using h) (by simpa using hl))
  | [], _ :: _, _, hl => by cases hl
  | _ :: _, [], _, hl => by cases hl
/-- pairs as they come -/
def RpP (U : Wd) (ow : Ow) (H : Hp) : List (D × D) → List (V × V) → Prop
  | [], xs => xs = []
  | p :: ps, xs => ∃ a b ys, xs = (a, b) :: ys ∧ Rp U ow H p.1 a ∧ Rp U ow H p.2 b ∧ RpP U ow H ps ys
theorem RpP.ext {H' : Hp} (e : Ext U H H') : ∀ {ps : List (D × D)} {xs : List (V × V)}, RpP U ow H ps xs → RpP U ow H' ps xs
  | [], _, h => by unfold RpP at h ⊢; exact h
  | p :: ps, _, h => by
    unfold RpP at h ⊢
    obtain ⟨a, b, ys, e1, h1, h2, h3⟩ := h
    exact ⟨a, b, ys, e1, h1.ext e, h2.ext e, RpP.ext e h3⟩
theorem keyV {d : D} {kk : Key} {v : V} (h : Rp U ow H d v) (e : keyD d = some kk) : v = kV kk := by
  cases d with
  | int i => unfold keyD at e; cases e; unfold Rp at h; exact h
  | str i => unfold keyD at e; cases e; unfold Rp at h; exact h
  | _ => cases e
theorem RpP.dict : ∀ {ps : List (D × D)} {xs : List (V × V)}, RpP U ow H ps xs → dOk ps = true → ∃ kvs : List (Key × V), xs = kvs.map (fun kv => (kV kv.1, kv.2)) ∧ RpD U ow H ps kvs ∧ kvs.map (fun kv => some kv.1) = ps.map fun p => keyD p.1
  | [], _, h, _ => by unfold RpP at h; exact ⟨[], h, RpD.nil, rfl⟩
  | p :: ps, _, h, ho => by
    unfold RpP at h
    obtain ⟨a, b, ys, e1, h1, h2, h3⟩ := h
    unfold dOk at ho
    rw [List.all_cons, Bool.and_eq_true] at ho
    obtain ⟨kk, hk⟩ := Option.isSome_iff_exists.mp ho.1
    obtain ⟨kvs, e2, r, e3⟩ := RpP.dict h3 ho.2
    exact ⟨(kk, b) :: kvs, by rw [e1, keyV h1 hk, e2]; rfl, RpD.cons hk h2 r, by rw [List.map_cons, List.map_cons, hk, e3]⟩
theorem mergeK_new : ∀ (more acc : List (Key × V)), ((acc ++ more).map (·.1)).Nodup → mergeK acc more = acc ++ more
  | [], acc, _ => by rw [List.append_nil]; rfl
  | p :: more, acc, h => by
    have hk : valV acc p.1 = none := by
      unfold valV
      cases hf : acc.find? (fun kv => decide (kv.1 = p.1)) with
      | none => rfl
      | some q =>
        exfalso
        have h1 := List.find?_some hf
        have h2 := List.mem_of_find?_eq_some hf
        rw [List.map_append, List.nodup_append] at h
        exact h.2.2 q.1 (List.mem_map_of_mem h2) p.1 (by simp) (by simpa using h1)
    have e : putK acc p.1 p.2 = acc ++ [p] := putK_new p.2 hk
    have ih := mergeK_new more (acc ++ [p]) (by rw [List.append_assoc]; exact h)
    show mergeK (putK acc p.1 p.2) more = _
    rw [e, ih, List.append_assoc]
    rfl
theorem pairs_imp {f : St → Expr → M D} : ∀ (ks : List (Option Expr)) (vs : List Expr) {H1 : Hp} {s1 : DS} {R : List (V × V) → Hp → Prop} (_ : SR U H0 ow0 ow σ H1 σd s1) {Qd : List (D × D) → DS → Prop} {Qx : Exc → DS → Prop} (_ : Wp (evPairs (f σd) ks vs) s1 Qd Qx)
    (_ : ∀ x s', Qx x s' → PostX U W σ H1 x s') (_ : ∀ ps s', Qd ps s' → ∀ xs H2, Ext U H1 H2 → Cap U H2 s' → RpP U ow H2 ps xs → ps.length = ks.length → R xs H2), tPairs (trsOf U W f ks vs) σ H1 R
  | [], [], H1, s1, R, S, Qd, Qx, w, _, hq => by
    have w : Wp (pure [] : M (List (D × D))) s1 Qd Qx := w
    exact hq _ _ w.of_pure [] H1 Ext.refl S.cap (by unfold RpP; rfl) rfl
  | some k :: ks, v :: vs, H1, s1, R, S, Qd, Qx, w, hx, hq => by
    have w : Wp (do let x ← f σd k; let y ← f σd v; let r ← evPairs (f σd) ks vs; pure ((x, y) :: r)) s1 Qd Qx := w
    refine ⟨H0, ow0, ow, σd, s1, S, w.of_bind.mono (fun dk s2 w2 vk H2 e2 c2 r2 _ => ?_) fun x s' h => hx x s' h⟩
    refine ⟨H0, ow0, ow, σd, s2, S.ext e2 c2, w2.of_bind.mono (fun dv s3 w3 vv H3 e3 c3 r3 _ => ?_) fun x s' h => (hx x s' h).ext e2⟩
    refine pairs_imp ks vs ((S.ext e2 c2).ext e3 c3) w3.of_bind (fun x s' h => ((hx x s' h).ext e2).ext e3) fun ps s4 w4 xs H4 e4 c4 r4 hl4 => ?_
    exact hq _ _ w4.of_pure ((vk, vv) :: xs) H4 ((e2.trans e3).trans e4) c4 (by unfold RpP; exact ⟨vk, vv, xs, rfl, (r2.ext e3).ext e4, r3.ext e4, r4⟩) (by rw [List.length_cons, List.length_cons, hl4])
  | none :: _, _, _, _, _, _, _, _, w, _, _ => by
    have w : Wp (fail : M (List (D × D))) _ _ _ := w
    exact w.of_fail.elim
  | [], _ :: _, _, _, _, _, _, _, w, _, _ => by
    have w : Wp (fail : M (List (D × D))) _ _ _ := w
    exact w.of_fail.elim
  | some _ :: _, [], _, _, _, _, _, _, w, _, _ => by
    have w : Wp (fail : M (List (D × D))) _ _ _ := w
    exact w.of_fail.elim
theorem pe_dict2 (g : Good U k Γ X W) {f : St → Expr → M D} (hE : ∀ e, PE X e (tOf U W (fun σ => f σ e) fun _ => false)) {ks : List (Option Expr)} {vs : List Expr} {pos : Pos} (hs : ks.length ≤ 15 ∧ ks.all (·.isSome) = true ∧ ks.length = vs.length) :
    PE X (.Dict ks vs pos) (tOf U W (fun σ => do let ps ← evPairs (f σ) ks vs; if dOk ps = true ∧ (ps.map fun p => keyD p.1).Nodup then pure (.dict ps) else fail) isL) := by
  obtain ⟨h15, hall, hl⟩ := hs
  by_cases h0 : ks = []
  · subst h0
    cases vs with
    | cons _ _ => cases hl
    | nil =>
      refine PE.imp pe_dnewK fun σ H Q h p np => ?_
      obtain ⟨H0, ow0, ow, σd, s, S, w⟩ := h
      have w : Wp (pure (.dict []) : M D) s _ _ := w
      have hc := S.nocap np
      refine w.of_pure (.ref p) _ (Ext.new np) (S.cap.new np) ?_ fun _ => ⟨p, _, rfl, np, upd_same, hc, fun i => .inr ⟨[], [], rfl, rfl, RpD.nil⟩⟩
      unfold Rp
      exact .inr ⟨p, [], rfl, .inl ⟨upd_same, S.noow np, hc⟩, RpD.nil⟩
  · refine PE.imp (pe_disp (pps_all hE ks vs hall hl) hall hl h0 h15) fun σ H Q h p np => ?_
    obtain ⟨H0, ow0, ow, σd, s, S, w⟩ := h
    have hc := S.nocap np
    have e1 : Ext U H (upd H p (.dK [])) := Ext.new np
    have S1 := S.grownU (u0 := .dK []) np (fun _ z => nomatch z) e1 (S.cap.new np) upd_same
    refine pairs_imp ks vs S1 w.of_bind (fun x s' h => h.ext e1) fun ps s' w' xs H2 e2 c2 r2 hl2 => ?_
    obtain ⟨⟨hok, hnd⟩, w'⟩ := w'.of_guard
    obtain ⟨kvs, ex, rd, ek⟩ := r2.dict hok
    have hp2 : H2 p = some (.dK []) := e2 p _ hc upd_same
    have hnd' : (List.map (fun kv : Key × V => kv.1) ([] ++ kvs)).Nodup := by
      rw [← ek] at hnd
      have h2 : ((kvs.map fun kv => kv.1).map some).Nodup := by rw [List.map_map]; exact hnd
      have h3 : (kvs.map fun kv => kv.1).Nodup := by
        rw [List.nodup_iff_pairwise_ne] at h2 ⊢
        rw [List.pairwise_map] at h2
        exact h2.imp fun h e => h (congrArg some e)
      exact h3
    have hm : mergeK [] kvs = kvs := by rw [mergeK_new kvs [] hnd']; rfl
    have hlen : kvs.length ≤ 15 := by
      rw [← rd.length, hl2]; exact h15
    refine ⟨hp2, kvs, ex, hlen, ?_⟩
    rw [hm]
    have kp : ∀ i : Option Nat, Keep U (owD ow p) (fun b => if b = p then i else ow b) H2 (upd H2 p (.dK kvs)) := fun i a u ha ho hu => by
      unfold owD at ho
      by_cases hap : a = p
      · subst hap; rw [if_pos rfl] at ho; cases ho
      · rw [if_neg hap] at ho
        exact ⟨by rw [upd_ne hap]; exact hu, by show (if a = p then i else ow a) = none; rw [if_neg hap]; exact ho⟩
    have kn : Keep U (owD ow p) ow H2 (upd H2 p (.dK kvs)) := fun a u ha ho hu => by
      unfold owD at ho
      by_cases hap : a = p
      · subst hap; rw [if_pos rfl] at ho; cases ho
      · rw [if_neg hap] at ho
        exact ⟨by rw [upd_ne hap]; exact hu, ho⟩
    refine w'.of_pure (.ref p) _ (fun a u ha hu => ?_) ⟨?_, ?_, c2.ne⟩ ?_ fun _ => ⟨p, _, rfl, np, upd_same, hc, fun i => .inr ⟨ps, kvs, rfl, rfl, RpD.mono (kp (some i)) _ _ rd⟩⟩
    · have hap : a ≠ p := ne_of_none hu np
      rw [upd_ne hap]
      exact e2 a u ha (e1 a u ha hu)
    · rw [upd_ne (fun z => hc z.symm)]; exact c2.row
    · rw [upd_ne (fun z => by rw [← z, S.cap.cells] at np; cases np)]; exact c2.cells
    · unfold Rp
      exact .inr ⟨p, kvs, rfl, .inl ⟨upd_same, S.noow np, hc⟩, RpD.mono kn _ _ rd⟩
end
end Py

set_option Elab.async false
set_option linter.all false
set_option maxRecDepth 100000
set_option maxHeartbeats 1000000
namespace Py
open PySem PySem.Spec PyProof.Rows L2
section
variable {U : Wd} {k : Nat} {Γ : Cxt} {X : Cx} {W : WX} {G : Gs} {ow ow0 : Ow} {H H0 : Hp} {s : DS}
theorem rngArg_ok {f : Str} {args rs : List Expr} (h : rngArg f args = some rs) : (f = ("list" : Str) ∨ f = ("tuple" : Str)) ∧ ∃ p pos, args = [.Call (.Name "range" p) rs [] pos] ∧ ((∃ a, rs = [a] ∧ notStar a = true) ∨ ∃ a b, rs = [a, b] ∧ notStar a = true ∧ notStar b = true) := by
  unfold rngArg at h
  split at h
  · split at h
    · rename_i c
      cases h
      obtain ⟨rfl, c1, c2⟩ := c
      exact ⟨c1, _, _, rfl, .inl ⟨_, rfl, c2⟩⟩
    · cases h
  · split at h
    · rename_i c
      cases h
      obtain ⟨rfl, c1, c2, c3⟩ := c
      exact ⟨c1, _, _, rfl, .inr ⟨_, _, rfl, c2, c3⟩⟩
    · cases h
  · cases h
theorem rg_ints (a b : Int) (n : Nat) (h : n = (b - a).toNat) : RpL U ow H (rangeD a n) (rgV a b) := by
  subst h
  have := RpL.ints (U := U) (ow := ow) (H := H) ((List.range (b - a).toNat).map fun i => a + (i : Nat))
  rw [List.map_map, List.map_map] at this
  exact this
/-- what is made of a range -/
theorem rng_end (hk : Hk U ow H s) {f : Str} {a b : Int} {n : Nat} {Q : VK} (hn : n = (b - a).toNat) (h1 : in62 a = true) (h2 : in62 b = true) {H1 : Hp} {s1 : DS} (S1 : Hk U ow H1 s1) (e1 : Ext U H H1)
    (hl : (rangeD a n).length ≤ sline) (w : PostE U ow (fun d => frB f && isL d) H Q (if f = ("list" : Str) then .list (rangeD a n) else .tuple (rangeD a n)) s1) :
    RgOk a b ∧ ∀ q, H1 q = none → (f = ("list" : Str) → Q (.ref q) (upd H1 q (.lst (rgV a b)))) ∧ (f = ("tuple" : Str) → Q (.ref q) (upd H1 q (.tup (rgV a b)))) := by
  obtain ⟨b1, b2⟩ := in62_ok h1
  obtain ⟨b3, b4⟩ := in62_ok h2
  have hz : (rangeD a n).length = n := by unfold rangeD; simp
  refine ⟨⟨b1, b2, b3, b4, ?_⟩, fun q hq => ⟨fun hf => ?_, fun hf => ?_⟩⟩
  · rw [hz] at hl
    have : sline = 2 ^ 24 := by decide
    omega
  · subst hf
    rw [if_pos rfl] at w
    exact S1.newL _ (rg_ints a b n hn) (w.ext e1) hq
  · subst hf
    rw [if_neg (by decide)] at w
    exact S1.newT _ (rg_ints a b n hn) (w.ext e1) rfl hq
theorem pe_lrg (g : Good U k Γ X W) (go : GlOk U k G) {h : Str} {args rs : List Expr} {p' pos : Pos} {f : St → Expr → M D} (hP : ∀ e, PE X e (tOfP U W (fun σ => f σ e))) (hr : rngArg h args = some rs) (h1 : L2.Gl X h) (h2 : X.mg h = none) :
    PE X (.Call (.Name h p') args [] pos) (tOf U W (fun σ => rngE G Γ (f σ) h rs) (fun d => frB h && isL d)) := by
  by_cases hg : gname G Γ "range" = true
  case neg => exact PE.fails fun σ => by unfold rngE; rw [if_neg hg]
  obtain ⟨hf, p, q, rfl, hrs⟩ := rngArg_ok hr
  have hg' : okName "range" = true ∧ kindG Γ.sc "range" = true ∧ G.bare "range" = true := by
    unfold gname at hg
    simp only [Bool.and_eq_true] at hg
    exact ⟨hg.1.1, hg.1.2, hg.2⟩
  have r1 : L2.Gl X ("range" : Str) := kindG_gl g hg'.2.1
  obtain ⟨_, r2, _, _⟩ := gname_ok g go hg'.1 hg'.2.1 hg'.2.2
  rcases hrs with ⟨a, rfl, na⟩ | ⟨a, b, rfl, na, nb⟩
  · have hs : starEach [a] X.env = (false, eval a X.env) :: starEach [] X.env := starEach_ns na
    have pr := prg_1 (pos := q) (p := p) r1 r2 (hP a) hs
    have fin : ∀ σ H Q, tOf U W (fun σ => rngE G Γ (f σ) h [a]) (fun d => frB h && isL d) σ H Q → tRg1 (tOfP U W fun σ => f σ a) σ H (fun a b H1 => RgOk a b ∧ ∀ q, H1 q = none → (h = ("list" : Str) → Q (.ref q) (upd H1 q (.lst (rgV a b)))) ∧ (h = ("tuple" : Str) → Q (.ref q) (upd H1 q (.tup (rgV a b))))) := fun σ H Q t => by
      obtain ⟨H0, ow0, ow, σd, s, S, w⟩ := t
      have w : Wp (rngE G Γ (f σd) h [a]) s _ _ := w
      unfold rngE at w
      rw [if_pos hg] at w
      unfold evs at w
      rw [if_pos na] at w
      refine ⟨H0, ow0, ow, σd, s, S, w.of_bind.of_bind.mono (fun d s1 w1 v H1 e1 c1 pk => ?_) fun _ _ z => z⟩
      have w1 := w1.of_bind.of_pure.of_pure.of_bind
      rw [iterC_rng] at w1
      cases d with
      | int n =>
        obtain ⟨h62, w1⟩ := w1.of_guard
        obtain ⟨hl, w1⟩ := w1.of_pure.of_guard
        refine ⟨n, pk.int, ?_⟩
        exact rng_end S.hk (by rw [Int.sub_zero]) (by decide) h62 (S.ext e1 c1).hk e1 hl w1.of_pure
      | _ => exact w1.of_fail.elim
    rcases hf with rfl | rfl
    · exact PE.imp (pe_listRg g.calm h1 h2 pr (starEach_ns rfl)) fun σ H Q t => by
        obtain ⟨H0, ow0, ow, σd, s, S, w⟩ := fin σ H Q t
        exact ⟨H0, ow0, ow, σd, s, S, w.mono (fun d s1 z v H1 e c pk => by
          obtain ⟨n, e1, e2, e3⟩ := z v H1 e c pk
          exact ⟨n, e1, e2, fun q hq => (e3 q hq).1 rfl⟩) fun _ _ z => z⟩
    · exact PE.imp (pe_tupRg g.calm h1 h2 pr (starEach_ns rfl)) fun σ H Q t => by
        obtain ⟨H0, ow0, ow, σd, s, S, w⟩ := fin σ H Q t
        exact ⟨H0, ow0, ow, σd, s, S, w.mono (fun d s1 z v H1 e c pk => by
          obtain ⟨n, e1, e2, e3⟩ := z v H1 e c pk
          exact ⟨n, e1, e2, fun q hq => (e3 q hq).2 rfl⟩) fun _ _ z => z⟩
  · have hs : starEach [a, b] X.env = (false, eval a X.env) :: starEach [b] X.env := starEach_ns na
    have hs2 : starEach [b] X.env = (false, eval b X.env) :: starEach [] X.env := starEach_ns nb
    have hp : (backTo q (starEach [b] X.env)).any (·.1) = false := plain_star fun e he => by simp at he; subst he; exact nb
    have pr := prg_2 (pos := q) (p := p) r1 r2 (hP a) (hP b) hs hs2 hp
    have fin : ∀ σ H Q, tOf U W (fun σ => rngE G Γ (f σ) h [a, b]) (fun d => frB h && isL d) σ H Q → tRg2 (tOfP U W fun σ => f σ a) (tOfP U W fun σ => f σ b) σ H (fun a b H1 => RgOk a b ∧ ∀ q, H1 q = none → (h = ("list" : Str) → Q (.ref q) (upd H1 q (.lst (rgV a b)))) ∧ (h = ("tuple" : Str) → Q (.ref q) (upd H1 q (.tup (rgV a b))))) := fun σ H Q t => by
      obtain ⟨H0, ow0, ow, σd, s, S, w⟩ := t
      have w : Wp (rngE G Γ (f σd) h [a, b]) s _ _ := w
      unfold rngE at w
      rw [if_pos hg] at w
      unfold evs at w
      rw [if_pos na] at w
      unfold evs at w
      rw [if_pos nb] at w
      refine ⟨H0, ow0, ow, σd, s, S, w.of_bind.of_bind.mono (fun d s1 w1 v H1 e1 c1 pk => ⟨H0, ow0, ow, σd, s1, S.ext e1 c1, w1.of_bind.of_bind.mono (fun d2 s2 w2 v2 H2 e2 c2 pk2 => ?_) fun x s' hx cls od H' e' => hx cls od H' (e1.trans e')⟩) fun _ _ z => z⟩
      have w1 := w2.of_bind.of_pure.of_pure.of_pure.of_bind
      rw [iterC_rng] at w1
      cases d with
      | int n =>
        cases d2 with
        | int m =>
          obtain ⟨h62, w1⟩ := w1.of_guard
          obtain ⟨hl, w1⟩ := w1.of_pure.of_guard
          refine ⟨n, m, pk.int, pk2.int, ?_⟩
          exact rng_end S.hk rfl h62.1 h62.2 ((S.ext e1 c1).ext e2 c2).hk (e1.trans e2) hl w1.of_pure
        | _ => exact w1.of_fail.elim
      | _ => exact w1.of_fail.elim
    rcases hf with rfl | rfl
    · exact PE.imp (pe_listRg g.calm h1 h2 pr (starEach_ns rfl)) fun σ H Q t => by
        obtain ⟨H0, ow0, ow, σd, s, S, w⟩ := fin σ H Q t
        exact ⟨H0, ow0, ow, σd, s, S, w.mono (fun d s1 z v H1 e c pk => by
          obtain ⟨H0', ow0', ow', σd', s', S', z'⟩ := z v H1 e c pk
          exact ⟨H0', ow0', ow', σd', s', S', z'.mono (fun d2 s2 z v2 H2 e c2 pk2 => by
            obtain ⟨n, m, q1, q2, e2, e3⟩ := z v2 H2 e c2 pk2
            exact ⟨n, m, q1, q2, e2, fun q hq => (e3 q hq).1 rfl⟩) fun _ _ z => z⟩) fun _ _ z => z⟩
    · exact PE.imp (pe_tupRg g.calm h1 h2 pr (starEach_ns rfl)) fun σ H Q t => by
        obtain ⟨H0, ow0, ow, σd, s, S, w⟩ := fin σ H Q t
        exact ⟨H0, ow0, ow, σd, s, S, w.mono (fun d s1 z v H1 e c pk => by
          obtain ⟨H0', ow0', ow', σd', s', S', z'⟩ := z v H1 e c pk
          exact ⟨H0', ow0', ow', σd', s', S', z'.mono (fun d2 s2 z v2 H2 e c2 pk2 => by
            obtain ⟨n, m, q1, q2, e2, e3⟩ := z v2 H2 e c2 pk2
            exact ⟨n, m, q1, q2, e2, fun q hq => (e3 q hq).2 rfl⟩) fun _ _ z => z⟩) fun _ _ z => z⟩
end
end Py

set_option Elab.async false
set_option linter.all false
set_option maxRecDepth 100000
set_option maxHeartbeats 1000000
namespace Py
open PySem PySem.Spec PyProof.Rows L2
section
variable {U : Wd} {k : Nat} {Γ : Cxt} {X : Cx} {W : WX} {G : Gs} {ow : Ow} {H : Hp} {s : DS}
theorem freshE_isL {m : Nat} {e : Expr} {d : D} (h : freshE G m e d = true) : isL d = true := by
  unfold freshE at h
  rw [Bool.and_eq_true] at h
  exact h.2
theorem freshE_frF {m : Nat} {e : Expr} {d : D} (h : freshE G m e d = true) : frF G m e = true := by
  unfold freshE at h
  rw [Bool.and_eq_true] at h
  exact h.1
theorem pe_con {e : Expr} {c : V} {d : D} {fr : D → Bool} (h : PE X e (tC c)) (r : ∀ ow H, Rp U ow H d c) (hf : fr d = false) : PE X e (tOf U W (fun _ => pure d) fr) := PE.imp h fun σ H Q q => by
  obtain ⟨H0, ow0, ow, σd, s, S, w⟩ := q
  exact postV S.hk (show Wp (pure d) s _ _ from w).of_pure (r _ _) hf
theorem PT.failsT {e : Expr} {f : St → M Bool} (h : ∀ σ, f σ = fail) : PT X e (tOfT U W f) := ⟨fun pins s' σ H Q I q => by
  obtain ⟨H0, ow0, ow, σd, s, S, w⟩ := q
  rw [h] at w
  exact w.of_fail.elim⟩
theorem tst_fail {f : Expr → M D} {e : Expr} (h : f e = fail) : tst f e = fail := by
  unfold tst
  split
  · rw [h]; rfl
  · rfl
theorem tOfQ_pk {f : St → M D} {σ : L2.St} {Q : VK} (h : tOfQ U W (Pk U) f σ H Q) : tOfP U W f σ H Q := h
theorem tstL {e : Expr} {F : St → Expr → M D} {σ : L2.St} {H : Hp} {Q : Bool → Hp → Prop} (hn : noIf e = true) (f : St → M D) (he : ∀ σ, F σ e = f σ) (q : tOfT U W (fun σ => tst (F σ) e) σ H Q) : tOfL U W f σ H Q := by
  obtain ⟨H0, ow0, ow, σd, s, S, w⟩ := q
  obtain ⟨_, w⟩ := tst_wp (show Wp (tst (F σd) e) s _ _ from w)
  rw [he] at w
  exact ⟨H0, ow0, ow, σd, s, S, w⟩
theorem tOf.to {F f : St → M D} {fr : D → Bool} {σ : L2.St} {H : Hp} {Q : VK} (he : ∀ σ, F σ = f σ) (q : tOf U W F fr σ H Q) : tOf U W f fr σ H Q := by
  rw [← funext he]; exact q
theorem PE.to {e : Expr} {F f : St → M D} {fr : D → Bool} (he : ∀ σ, F σ = f σ) (q : PE X e (tOf U W f fr)) : PE X e (tOf U W F fr) := by
  rw [funext he]; exact q
/-- one layer of the interpreter -/
theorem snd_F (go : GlOk U k G) (gf : FnsOk U k G) {rec : Cxt → St → Expr → M D} (h : Snd U k G rec) : Snd U k G (evF G rec) := by
  intro Γ X W g e
  have hE' : ∀ {Γ X W}, Good U k Γ X W → ∀ e, PE X e (tOf U W (fun σ => rec Γ σ e) fun _ => false) := fun g e => PE.weak ((h _ _ _ g e).1 0) (fun d z => by cases z)
  have hE := fun e => hE' g e
  have hT := fun e => (h Γ X W g e).2
  have hP : ∀ e, PE X e (tOfP U W (fun σ => evP G Γ σ (rec Γ σ) e)) := fun e => pe_evP g go (hE e)
  have fin : ∀ (e : Expr) (fr : D → Bool), PE X e (tOf U W (fun σ => evF G rec Γ σ e) fr) → (∀ m d, freshE G m e d = true → fr d = true) → (∀ whole, isTrue e X.env whole = (do let v ← whole; standAt e.pos; holding [v] (truthy v))) →
      (∀ m, PE X e (tOf U W (fun σ => evF G rec Γ σ e) (freshE G m e))) ∧ PT X e (tOfT U W (fun σ => tst (evF G rec Γ σ) e)) :=
    fun e fr a b c => ⟨fun m => PE.weak a (b m), pt_val2 (f := evF G rec Γ) a c⟩
  have bad : ∀ e : Expr, (∀ σ, evF G rec Γ σ e = fail) → (∀ m, PE X e (tOf U W (fun σ => evF G rec Γ σ e) (freshE G m e))) ∧ PT X e (tOfT U W (fun σ => tst (evF G rec Γ σ) e)) :=
    fun e hf => ⟨fun m => PE.fails hf, PT.failsT fun σ => tst_fail (hf σ)⟩
  have nof : ∀ (m : Nat) (d : D) (e : Expr), (∀ n ds, freshE G (n + 1) e (.list ds) = false) → freshE G m e d = true → False := fun m d e hn z => by
    cases m with
    | zero => cases freshE_frF z
    | succ m =>
      have h1 := freshE_frF z
      have h2 := hn m []
      unfold freshE at h2
      rw [h1] at h2
      cases h2
  cases e with
  | Constant c j p =>
    cases c with
    | int i => exact fin _ (fun _ => false) (pe_con pe_int (fun _ _ => Rp.int) rfl) (fun m d z => (nof m d _ (fun _ _ => rfl) z).elim) fun _ => rfl
    | bool i => exact fin _ (fun _ => false) (pe_con pe_bl (fun _ _ => Rp.bool) rfl) (fun m d z => (nof m d _ (fun _ _ => rfl) z).elim) fun _ => rfl
    | none => exact fin _ (fun _ => false) (pe_con pe_non (fun _ _ => Rp.none) rfl) (fun m d z => (nof m d _ (fun _ _ => rfl) z).elim) fun _ => rfl
    | str i => exact fin _ (fun _ => false) (pe_con pe_str (fun _ _ => Rp.str) rfl) (fun m d z => (nof m d _ (fun _ _ => rfl) z).elim) fun _ => rfl
    | _ => exact bad _ fun _ => rfl
  | Name x p => exact fin _ (fun _ => false) ((pe_load g go).2 _ fun _ => rfl) (fun m d z => (nof m d _ (fun _ _ => rfl) z).elim) fun _ => rfl
  | BinOp a op b p => exact fin _ isL (pe_bin2 g (hP a) (hP b)) (fun m d z => freshE_isL z) fun _ => rfl
  | UnaryOp op a p =>
    cases op with
    | USub => exact fin _ (fun _ => false) (pe_neg2 g (hE a)) (fun m d z => (nof m d _ (fun _ _ => rfl) z).elim) fun _ => rfl
    | Not => exact ⟨fun m => PE.weak (pe_not2 (f := rec Γ) g (hE a)) (fun d z => (nof m d _ (fun _ _ => rfl) z).elim), pt_not2 g (f := rec Γ) (hT a) fun σ => rfl⟩
    | _ => exact bad _ fun _ => rfl
  | BoolOp op es p =>
    by_cases hes : es = []
    · subst hes
      cases op <;> exact bad _ fun _ => rfl
    · cases op with
      | And => exact ⟨fun m => PE.weak (pe_andL g (f := rec Γ) hE es hes) (fun d z => (nof m d _ (fun _ _ => rfl) z).elim), PT.imp (pw_andL g (f := rec Γ) hT es hes).pt fun σ H Q q => tstL rfl (fun σ => andL (rec Γ σ) es) (fun _ => rfl) q⟩
      | Or => exact ⟨fun m => PE.weak (pe_orL g (f := rec Γ) hE es hes) (fun d z => (nof m d _ (fun _ _ => rfl) z).elim), PT.imp (pw_orL g (f := rec Γ) hT es hes).pt fun σ H Q q => tstL rfl (fun σ => orL (rec Γ σ) es) (fun _ => rfl) q⟩
  | Compare a ops bs p =>
    match ops, bs with
    | [op], [b] =>
      by_cases hm : behindInMarks op b = false
      · have he : ∀ σ, evF G rec Γ σ (.Compare a [op] [b] p) = cmp1 (evP G Γ σ (rec Γ σ) a) (evP G Γ σ (rec Γ σ) b) op := fun σ => by show (if _ then _ else _) = _; rw [if_pos hm]
        have c := pc_1 g (hP a) (hP b) (op := op) (pos := p) hm
        refine ⟨fun m => PE.weak (fr := fun _ => false) (PE.imp c.1 fun σ H Q q => ?_) (fun d z => (nof m d _ (fun _ _ => rfl) z).elim), PT.imp c.2 fun σ H Q q => tstL rfl _ he q⟩
        exact tOf.to he q
      · exact bad _ fun σ => by show (if _ then _ else _) = _; rw [if_neg hm]
    | [op, op'], [b, c] =>
      by_cases hm : lastMarks [op, op'] [b, c] = false
      · have he : ∀ σ, evF G rec Γ σ (.Compare a [op, op'] [b, c] p) = cmp2 (evP G Γ σ (rec Γ σ) a) (evP G Γ σ (rec Γ σ) b) (evP G Γ σ (rec Γ σ) c) op op' := fun σ => by show (if _ then _ else _) = _; rw [if_pos hm]
        have c := pc_2 g (hP a) (hP b) (hP c) (op := op) (op' := op') (pos := p) hm
        refine ⟨fun m => PE.weak (fr := fun _ => false) (PE.imp c.1 fun σ H Q q => ?_) (fun d z => (nof m d _ (fun _ _ => rfl) z).elim), PT.imp c.2 fun σ H Q q => tstL rfl _ he q⟩
        exact tOf.to he q
      · exact bad _ fun σ => by show (if _ then _ else _) = _; rw [if_neg hm]
    | [], _ => exact bad _ fun _ => rfl
    | [_], [] => exact bad _ fun _ => rfl
    | [_], _ :: _ :: _ => exact bad _ fun _ => rfl
    | [_, _], [] => exact bad _ fun _ => rfl
    | [_, _], [_] => exact bad _ fun _ => rfl
    | [_, _], _ :: _ :: _ :: _ => exact bad _ fun _ => rfl
    | [op, op', op2], [b, c, d] =>
      by_cases hm : lastMarks [op, op', op2] [b, c, d] = false
      · have he : ∀ σ, evF G rec Γ σ (.Compare a [op, op', op2] [b, c, d] p) = cmp3 (evP G Γ σ (rec Γ σ) a) (evP G Γ σ (rec Γ σ) b) (evP G Γ σ (rec Γ σ) c) (evP G Γ σ (rec Γ σ) d) op op' op2 := fun σ => by show (if _ then _ else _) = _; rw [if_pos hm]
        have c := pc_3 g (hP a) (hP b) (hP c) (hP d) (op := op) (op' := op') (op2 := op2) (pos := p) hm
        refine ⟨fun m => PE.weak (fr := fun _ => false) (PE.imp c.1 fun σ H Q q => ?_) (fun d z => (nof m d _ (fun _ _ => rfl) z).elim), PT.imp c.2 fun σ H Q q => tstL rfl _ he q⟩
        exact tOf.to he q
      · exact bad _ fun σ => by show (if _ then _ else _) = _; rw [if_neg hm]
    | [_, _, _], [] => exact bad _ fun _ => rfl
    | [_, _, _], [_] => exact bad _ fun _ => rfl
    | [_, _, _], [_, _] => exact bad _ fun _ => rfl
    | [_, _, _], _ :: _ :: _ :: _ :: _ => exact bad _ fun _ => rfl
    | _ :: _ :: _ :: _ :: _, _ => exact bad _ fun _ => rfl
  | IfExp c a b p =>
    refine ⟨fun m => ?_, PT.failsT fun σ => rfl⟩
    cases m with
    | zero => exact PE.weak (pe_if2 (f := rec Γ) (fr := fun _ => false) g (hT c) (hE a) (hE b) (fun _ z => z) (fun _ z => z)) (fun d z => by cases freshE_frF z)
    | succ m =>
      have hh : ∀ d, freshE G (m + 1) (.IfExp c a b p) d = true → freshE G m a d = true ∧ freshE G m b d = true := fun d z => by
        have h1 := freshE_isL z
        have h2 : (frF G m a && frF G m b) = true := freshE_frF z
        rw [Bool.and_eq_true] at h2
        unfold freshE
        rw [h1, h2.1, h2.2]
        exact ⟨rfl, rfl⟩
      exact pe_if2 (f := rec Γ) g (hT c) ((h Γ X W g a).1 m) ((h Γ X W g b).1 m) (fun d z => (hh d z).1) fun d z => (hh d z).2
  | Tuple es j p => exact fin _ (fun _ => false) (pe_tup2 g (pa_evs (f := rec Γ) hE es)) (fun m d z => (nof m d _ (fun _ _ => rfl) z).elim) fun _ => rfl
  | List es p => exact fin _ isL (pe_lst2 g (pa_evs (f := rec Γ) hE es)) (fun m d z => freshE_isL z) fun _ => rfl
  | Dict ks vs p =>
    by_cases hc : ks.length ≤ 15 ∧ ks.all (·.isSome) = true ∧ ks.length = vs.length
    · exact fin _ isL (PE.to (fun σ => by show (if _ then _ else _) = _; rw [if_pos hc]) (pe_dict2 (f := rec Γ) g hE hc)) (fun m d z => freshE_isL z) fun _ => rfl
    · exact bad _ fun σ => by show (if _ then _ else _) = _; rw [if_neg hc]
  | Subscript a i p =>
    cases i with
    | Slice lo hi st p2 =>
      cases st with
      | none => exact fin _ isL (pe_sl2 g (hP a) (po_2 (f := fun σ => evP G Γ σ (rec Γ σ)) hP lo) (po_2 (f := fun σ => evP G Γ σ (rec Γ σ)) hP hi)) (fun m d z => freshE_isL z) fun _ => rfl
      | some st =>
        cases lo with
        | none =>
          cases hi with
          | none =>
            by_cases hm : isM1 st = true
            · refine fin _ isL (PE.to (fun σ => ?_) (pe_rev2 g (hP a) hm)) (fun m d z => freshE_isL z) fun _ => rfl
              show (if _ then _ else _) = _
              rw [if_pos hm]
            · exact bad _ fun σ => by show (if _ then _ else _) = _; rw [if_neg hm]
          | some hi => exact fin _ (fun _ => false) (pe_ix2 g (hP a) (hP _) fun _ _ => rfl) (fun m d z => (nof m d _ (fun _ _ => rfl) z).elim) fun _ => rfl
        | some lo => exact fin _ (fun _ => false) (pe_ix2 g (hP a) (hP _) fun _ _ => rfl) (fun m d z => (nof m d _ (fun _ _ => rfl) z).elim) fun _ => rfl
    | _ => exact fin _ (fun _ => false) (pe_ix2 g (hP a) (hP _) fun _ _ => rfl) (fun m d z => (nof m d _ (fun _ _ => rfl) z).elim) fun _ => rfl
  | ListComp elt gens sc p =>
    match gens with
    | [⟨tg, it, ifs, .negSucc _⟩] => exact bad _ fun _ => rfl
    | [⟨tg, it, ifs, .ofNat (_ + 1)⟩] => exact bad _ fun _ => rfl
    | [⟨tg, it, ifs, .ofNat 0⟩] =>
      by_cases hb : L2.blkC Γ.N Γ.sc sc (ownOf Γ.N tg) = true
      · have he : (fun σ => evF G rec Γ σ (.ListComp elt [⟨tg, it, ifs, 0⟩] sc p)) = (fun σ => do
          let items ← iterE G Γ (evP G Γ σ (rec Γ σ)) tg it
          let ys ← compB (rec ⟨Γ.N, L2.relS sc Γ.sc, sc⟩) ⟨Γ.N, L2.relS sc Γ.sc, sc⟩ (Py.wipe σ ((ownOf Γ.N tg).map (·.2))) tg ifs elt items
          if ys.length ≤ sline then pure (.list ys) else fail) := funext fun σ => by show (if _ then _ else _) = _; rw [if_pos hb]
        have pi := pi_iterE (tg := tg) (it := it) g go (srcE U) (f := fun σ => evP G Γ σ (rec Γ σ)) hP
        refine fin _ isL ?_ (fun m d z => freshE_isL z) fun _ => rfl
        show PE X _ (tOf U W (fun σ => evF G rec Γ σ (.ListComp elt [⟨tg, it, ifs, 0⟩] sc p)) isL)
        rw [he]
        rcases pi.2 with hs | hs
        · exact pe_comp g pi.1 hs hb (fun Y gY e => (h _ Y W0 gY e).2) (fun Y gY e => hE' gY e)
        · exact PE.fails fun σ => by rw [hs]; rfl
      · exact bad _ fun σ => by show (if _ then _ else _) = _; rw [if_neg hb]
    | [] => exact bad _ fun _ => rfl
    | [⟨tg, it, ifs, .ofNat 0⟩, ⟨tg1, it1, ifs1, .ofNat 0⟩] =>
      by_cases hb : L2.blkC Γ.N Γ.sc sc (own2 Γ.N tg tg1) = true ∧ isSet it1 = false
      · have he : (fun σ => evF G rec Γ σ (.ListComp elt [⟨tg, it, ifs, 0⟩, ⟨tg1, it1, ifs1, 0⟩] sc p)) = (fun σ => do
          let items ← iterE G Γ (evP G Γ σ (rec Γ σ)) tg it
          let ys ← compB2 G (rec ⟨Γ.N, L2.relS sc Γ.sc, sc⟩) ⟨Γ.N, L2.relS sc Γ.sc, sc⟩ (Py.wipe σ ((own2 Γ.N tg tg1).map (·.2))) tg ifs tg1 it1 ifs1 elt items
          if ys.length ≤ sline then pure (.list ys) else fail) := funext fun σ => by show (if _ then _ else _) = _; rw [if_pos hb]
        have pi := pi_iterE (tg := tg) (it := it) g go (srcE U) (f := fun σ => evP G Γ σ (rec Γ σ)) hP
        refine fin _ isL ?_ (fun m d z => freshE_isL z) fun _ => rfl
        show PE X _ (tOf U W (fun σ => evF G rec Γ σ (.ListComp elt [⟨tg, it, ifs, 0⟩, ⟨tg1, it1, ifs1, 0⟩] sc p)) isL)
        rw [he]
        rcases pi.2 with hs | hs
        · exact pe_comp2 g go pi.1 hs hb.1 hb.2 (fun Y gY e => (h _ Y W0 gY e).2) (fun Y gY e => hE' gY e)
        · exact PE.fails fun σ => by rw [hs]; rfl
      · exact bad _ fun σ => by show (if _ then _ else _) = _; rw [if_neg hb]
    | [⟨_, _, _, .ofNat 0⟩, ⟨_, _, _, .negSucc _⟩] => exact bad _ fun _ => rfl
    | [⟨_, _, _, .ofNat 0⟩, ⟨_, _, _, .ofNat (_ + 1)⟩] => exact bad _ fun _ => rfl
    | [⟨_, _, _, .negSucc _⟩, _] => exact bad _ fun _ => rfl
    | [⟨_, _, _, .ofNat (_ + 1)⟩, _] => exact bad _ fun _ => rfl
    | g1 :: g2 :: _ :: _ => exact bad _ fun _ => by rcases g1 with ⟨_, _, _, (_ | _) | _⟩ <;> rcases g2 with ⟨_, _, _, (_ | _) | _⟩ <;> rfl
  | Call fe args kws p =>
    cases fe with
    | Name f p' =>
      cases kws with
      | cons _ _ => exact bad _ fun _ => rfl
      | nil =>
        by_cases hc : okName f = true ∧ kindG Γ.sc f = true
        case neg => exact bad _ fun σ => by show (if _ then _ else _) = _; rw [if_neg hc]
        obtain ⟨k1, k3, k4⟩ := okName_d hc.1
        have hgl : L2.Gl X f := kindG_gl g hc.2
        cases hbare : G.bare f with
        | true =>
          obtain ⟨_, hmg, _, _⟩ := gname_ok g go hc.1 hc.2 hbare
          by_cases hi : f = ("isinstance" : Str)
          · subst hi
            have badI : ∀ σ, evF G rec Γ σ (.Call (.Name "isinstance" p') args [] p) = isiE G Γ (evP G Γ σ (rec Γ σ)) args := fun σ => by
              show (if _ then _ else _) = _
              rw [if_pos hc, if_pos hbare, if_pos rfl]
              all_goals rfl
            have nofI : ∀ (m : Nat) (d : D), freshE G m (.Call (.Name "isinstance" p') args [] p) d = true → (fun _ : D => false) d = true := fun m d z => by
              refine (nof m d _ (fun n ds => ?_) z).elim
              show ((if G.bare _ = true then _ else _) && true) = false
              rw [if_pos hbare]
              rfl
            cases args with
            | nil => exact bad _ badI
            | cons a as =>
            cases as with
            | nil => exact bad _ badI
            | cons b cs =>
            cases cs with
            | cons c ds =>
              exact bad _ fun σ => by
                rw [badI]
                cases b with
                | Tuple es j p4 =>
                  rcases es with (_ | ⟨x1, (_ | ⟨x2, (_ | ⟨x3, xr⟩)⟩)⟩)
                  all_goals first | rfl | (cases x1 <;> first | rfl | (cases x2 <;> rfl))
                | _ => rfl
            | nil =>
            cases b with
            | Name t p2 =>
              by_cases ht : gname G Γ t = true ∧ notStar a = true ∧ (isiT t).isSome = true
              · exact fin _ (fun _ => false) (PE.to (fun σ => by rw [badI]; exact if_pos ht) (pe_isi2 g go (hP a) ht.2.1 hgl hmg ht.1 ht.2.2)) nofI fun _ => rfl
              · exact bad _ fun σ => by rw [badI]; exact if_neg ht
            | Tuple es j p4 =>
              cases es with
              | nil => exact bad _ badI
              | cons x1 xs =>
              cases xs with
              | nil => exact bad _ fun σ => by rw [badI]; cases x1 <;> rfl
              | cons x2 xr =>
              cases xr with
              | cons x3 xr => exact bad _ fun σ => by rw [badI]; cases x1 <;> first | rfl | (cases x2 <;> rfl)
              | nil =>
              cases x1 with
              | Name t p2 =>
                cases x2 with
                | Name t2 p3 =>
                  by_cases ht : (gname G Γ t = true ∧ gname G Γ t2 = true) ∧ notStar a = true ∧ (isiT t).isSome = true ∧ (isiT t2).isSome = true
                  · exact fin _ (fun _ => false) (PE.to (fun σ => by rw [badI]; exact if_pos ht) (pe_isiT2 g go (hP a) ht.2.1 hgl hmg ht.1.1 ht.1.2 ht.2.2.1 ht.2.2.2)) nofI fun _ => rfl
                  · exact bad _ fun σ => by rw [badI]; exact if_neg ht
                | _ => exact bad _ badI
              | _ => exact bad _ badI
            | _ => exact bad _ badI
          · cases hrg : rngArg f args with
            | some rs =>
              refine fin _ (fun d => frB f && isL d) (PE.to (fun σ => ?_) (pe_lrg (f := fun σ => evP G Γ σ (rec Γ σ)) g go hP hrg hgl hmg)) (fun m d z => ?_) fun _ => rfl
              · show (if _ then _ else _) = _
                rw [if_pos hc, if_pos hbare, if_neg hi, hrg]
              · have hil := freshE_isL z
                cases m with
                | zero => cases freshE_frF z
                | succ m =>
                    have z : (if G.bare f = true then frB f else match G.fns f with
                      | some fg => fg.fr && !fg.fl
                      | none => false) = true := freshE_frF z
                    rw [if_pos hbare] at z
                    rw [Bool.and_eq_true]
                    exact ⟨z, hil⟩
            | none =>
            by_cases hb : biN f = true ∧ noStars args = true
            · refine fin _ (fun d => frB f && isL d) (PE.to (fun σ => ?_) (pe_bi2 g (pa_evsP (f := fun σ => evP G Γ σ (rec Γ σ)) hP args) hb.2 hgl hmg k1 k4 hb.1 fun z σ => by rw [z]; rfl)) (fun m d z => ?_) fun _ => rfl
              · show (if _ then _ else _) = _
                rw [if_pos hc, if_pos hbare, if_neg hi, hrg]
                exact if_pos hb
              · have hil := freshE_isL z
                cases m with
                | zero => cases freshE_frF z
                | succ m =>
                    have z : (if G.bare f = true then frB f else match G.fns f with
                      | some fg => fg.fr && !fg.fl
                      | none => false) = true := freshE_frF z
                    rw [if_pos hbare] at z
                    rw [Bool.and_eq_true]
                    exact ⟨z, hil⟩
            · exact bad _ fun σ => by
                show (if _ then _ else _) = _
                rw [if_pos hc, if_pos hbare, if_neg hi, hrg]
                exact if_neg hb
        | false =>
          have hbare' : ¬ G.bare f = true := by rw [hbare]; simp
          cases hf : G.fns f with
          | none =>
            exact bad _ fun σ => by
              show (if _ then _ else _) = _
              rw [if_pos hc, if_neg hbare', hf]
          | some fg =>
            by_cases hn : noStars args = true
            case neg =>
              exact bad _ fun σ => by
                show (if _ then _ else _) = _
                rw [if_pos hc, if_neg hbare', hf]
                show (if _ then _ else _) = _
                rw [if_neg hn]
            by_cases hl : fg.fl = true
            · refine fin _ (fun _ => false) (PE.to (fun σ => ?_) (pe_defP g gf hf hn hgl k1 (pa_evsP (f := fun σ => evP G Γ σ (rec Γ σ)) hP args) fun z σ => by rw [z]; rfl)) (fun m d z => ?_) fun _ => rfl
              · show (if _ then _ else _) = _
                rw [if_pos hc, if_neg hbare', hf]
                show (if _ then _ else _) = _
                rw [if_pos hn, if_pos hl]
              · refine (nof m d _ (fun n ds => ?_) z).elim
                show ((if G.bare _ = true then _ else _) && true) = false
                rw [if_neg hbare', hf]
                show ((fg.fr && !fg.fl) && true) = false
                rw [hl, Bool.and_true, Bool.and_comm]; rfl
            · refine fin _ (fun d => fg.fr && isL d) (PE.to (fun σ => ?_) (pe_defS g gf hf hn hgl k1 (pa_evs (f := rec Γ) hE args) fun z σ => by rw [z]; rfl)) (fun m d z => ?_) fun _ => rfl
              · show (if _ then _ else _) = _
                rw [if_pos hc, if_neg hbare', hf]
                show (if _ then _ else _) = _
                rw [if_pos hn, if_neg hl]
              · have hil := freshE_isL z
                cases m with
                | zero => cases freshE_frF z
                | succ m =>
                    have z : (if G.bare f = true then frB f else match G.fns f with
                      | some fg => fg.fr && !fg.fl
                      | none => false) = true := freshE_frF z
                    rw [if_neg hbare', hf] at z
                    have z : (fg.fr && !fg.fl) = true := z
                    rw [Bool.and_eq_true] at z ⊢
                    exact ⟨z.1, hil⟩
    | Attribute o m q =>
      cases kws with
      | cons _ _ => exact bad _ fun _ => by rcases args with (_ | ⟨_, (_ | ⟨_, _⟩)⟩) <;> rfl
      | nil =>
      cases args with
      | nil => exact bad _ fun _ => rfl
      | cons e as =>
      cases as with
      | cons _ _ => exact bad _ fun _ => rfl
      | nil =>
        by_cases hc : (q.endLine == p.line) = true ∧ notStar e = true ∧ plainO o = true ∧ methN m = true
        · exact fin _ (fun _ => false) (PE.to (fun σ => by show (if _ then _ else _) = _; rw [if_pos hc]) (pe_meth1 g (hP o) (hP e) hc.2.1 hc.2.2.1 hc.1 hc.2.2.2)) (fun m d z => (nof m d _ (fun _ _ => rfl) z).elim) fun _ => rfl
        · exact bad _ fun σ => by show (if _ then _ else _) = _; rw [if_neg hc]
    | _ => exact bad _ fun _ => rfl
  | _ => exact bad _ fun _ => rfl
theorem snd_E (go : GlOk U k G) (gf : FnsOk U k G) : ∀ n, Snd U k G (evE G n)
  | 0 => fun Γ X W g e => ⟨fun m => PE.fails fun σ => rfl, PT.failsT fun σ => tst_fail rfl⟩
  | n + 1 => snd_F go gf (snd_E go gf n)
end
end Py

set_option Elab.async false
set_option linter.all false
set_option maxRecDepth 100000
set_option maxHeartbeats 1000000
namespace Py
open PySem PySem.Spec PyProof.Rows L2

/-- a list made since the entry -/
def FrR (U : Wd) (H0 : Hp) (ow : Ow) (H : Hp) (d : D) (v : V) : Prop := ∃ a u, v = .ref a ∧ H0 a = none ∧ H a = some u ∧ a ≠ U.cap ∧ Sh U (fun b => if b = a then some 0 else ow b) H d u
/-- what a flow promises -/
def PostF (U : Wd) (H0 : Hp) (ow0 : Ow) (Hk : Hp) (owk : Ow) (W : WX) (D : Ends) : Flow → DS → Prop
  | .nx σd, s => ∀ ow σ H, SR U H0 ow0 ow σ H σd s → Keep U owk ow Hk H → D.nx σ H
  | .brk σd, s => ∀ ow σ H, SR U H0 ow0 ow σ H σd s → Keep U owk ow Hk H → D.bk σ H
  | .ct σd, s => ∀ ow σ H, SR U H0 ow0 ow σ H σd s → Keep U owk ow Hk H → D.ct σ H
  | .ret d o, s => ∀ ow σ H σd v, SR U H0 ow0 ow σ H σd s → (o = false → Rp U ow H d v) → (o = true → FrR U H0 ow H d v) → D.rt v H
  | .rz x σd, s => ∀ ow σ H cls od, SR U H0 ow0 ow σ H σd s → XRep U H x cls od → W cls od σ H
def tOfS (U : Wd) (W : WX) (m : St → M Flow) : TS := fun D σ H => ∃ H0 ow0 Hk owk ow σd s, SR U H0 ow0 ow σ H σd s ∧ Keep U owk ow Hk H ∧ Wp (m σd) s (PostF U H0 ow0 Hk owk W D) fun _ _ => False
theorem Keep.trans {U : Wd} {a b c : Ow} {H H1 H2 : Hp} (h : Keep U a b H H1) (h' : Keep U b c H1 H2) : Keep U a c H H2 := fun x u hc ho e => by
  obtain ⟨e1, o1⟩ := h x u hc ho e
  exact h' x u hc o1 e1
theorem Keep.refl {U : Wd} {a : Ow} {H : Hp} : Keep U a a H H := fun _ _ _ ho e => ⟨e, ho⟩
/-- where one stands, in a def's body -/
structure GoodS (U : Wd) (k : Nat) (Γ : Cxt) (X : Cx) (W : WX) : Prop extends Good U k Γ X W where
  st : Γ.st = Γ.sc
  hp : PassesOwn (model X.prog X.w) X.A X.env X.xe
  stack : X.stack = X.env :: X.outer
  frame : X.env.frame = some X.env.locals
  fk : Γ.sc.kind = .function
section
variable {U : Wd} {k : Nat} {Γ : Cxt} {X : Cx} {W : WX} {G : Gs} {ow ow0 : Ow} {H H0 H1 : Hp} {s s1 : DS} {σ : L2.St} {σd : St} {D : Ends}
theorem PS.fails {e : Stmt} {m : St → M Flow} (h : ∀ σ, m σ = fail) : PS X e (tOfS U W m) := ⟨fun pins s σ H D I q => by
  obtain ⟨H0, ow0, Hk, owk, ow, σd, s, S, kk, w⟩ := q
  rw [h] at w
  exact w.of_fail.elim⟩
theorem PS.to {e : Stmt} {F f : St → M Flow} (he : ∀ σ, F σ = f σ) (q : PS X e (tOfS U W f)) : PS X e (tOfS U W F) := by
  rw [funext he]; exact q
/-- a slot given up -/
theorem SR.frz1 (S : SR U H0 ow0 ow σ H σd s) {i : Nat} {d : Py.D} {o : Bool} (h : σd[i]? = some (some (d, o))) : ∃ ow', SR U H0 ow0 ow' σ H (σd.set i (some (d, false))) s ∧ Keep U ow ow' H H := by
  obtain ⟨v, hv, h2, h3⟩ := S.slots i d o h
  have hi : i < σd.length := by
    by_cases z : i < σd.length
    · exact z
    · rw [List.getElem?_eq_none (by omega)] at h; cases h
  cases o with
  | false =>
    refine ⟨ow, ⟨S.trk, S.capo, S.cello, S.own0, S.agr, S.base, fun j e o' hj => ?_, S.cap, by rw [List.length_set]; exact S.len⟩, Keep.refl⟩
    by_cases hij : i = j
    · subst hij
      rw [List.getElem?_set_self hi] at hj
      cases hj
      exact ⟨v, hv, h2, fun z => nomatch z⟩
    · rw [List.getElem?_set_ne hij] at hj
      exact S.slots j e o' hj
  | true =>
    obtain ⟨a, u0, ev, ha, hoa, hc, r⟩ := h3 rfl
    have kp : Keep U ow (fun b => if b = a then none else ow b) H H := fun b u _ ho e => ⟨e, by
      show (if b = a then none else ow b) = none
      by_cases hb : b = a
      · rw [if_pos hb]
      · rw [if_neg hb]; exact ho⟩
    have le : ∀ b j, (if b = a then none else ow b) = some j → b ≠ a ∧ ow b = some j := fun b j z => by
      by_cases hb : b = a
      · rw [if_pos hb] at z; cases z
      · rw [if_neg hb] at z; exact ⟨hb, z⟩
    refine ⟨fun b => if b = a then none else ow b, ⟨fun b z => ?_, ?_, ?_, fun b j z => S.own0 b j (le b _ z).2, fun b u z => ?_, S.base, fun j e o' hj => ?_, S.cap, by rw [List.length_set]; exact S.len⟩, kp⟩
    · have z : (if b = a then none else ow b) ≠ none := z
      by_cases hb : b = a
      · rw [if_pos hb] at z; exact absurd rfl z
      · rw [if_neg hb] at z; exact S.trk b z
    · show (if U.cap = a then none else ow U.cap) = none
      rw [if_neg (fun z => hc z.symm)]; exact S.capo
    · show (if U.cell = a then none else ow U.cell) = none
      by_cases hb : U.cell = a
      · rw [if_pos hb]
      · rw [if_neg hb]; exact S.cello
    · show (if b = a then none else ow b) = ow0 b
      by_cases hb : b = a
      · subst hb
        rw [S.own0 b i hoa] at z; cases z
      · rw [if_neg hb]; exact S.agr b u z
    · by_cases hij : i = j
      · subst hij
        rw [List.getElem?_set_self hi] at hj
        cases hj
        refine ⟨v, hv, fun _ => ?_, fun z => nomatch z⟩
        rw [ev]
        rcases r with ⟨ds, xs, ed, eu, r⟩ | ⟨ds, xs, ed, eu, r⟩
        · subst ed eu
          unfold Rp
          exact ⟨a, xs, rfl, ⟨ha, by show (if a = a then none else ow a) = none; rw [if_pos rfl], hc⟩, RpL.mono kp _ _ r⟩
        · subst ed eu
          unfold Rp
          exact .inr ⟨a, xs, rfl, .inl ⟨ha, by show (if a = a then none else ow a) = none; rw [if_pos rfl], hc⟩, RpD.mono kp _ _ r⟩
      · rw [List.getElem?_set_ne hij] at hj
        obtain ⟨v', hv', k2, k3⟩ := S.slots j e o' hj
        refine ⟨v', hv', fun z => Rp.mono kp _ _ (k2 z), fun z => ?_⟩
        obtain ⟨a', u', e2, m1, m2, m3, m4⟩ := k3 z
        refine ⟨a', u', e2, m1, ?_, m3, Sh.mono kp m4⟩
        show (if a' = a then none else ow a') = some (j + 1)
        rw [if_neg (fun z => by subst z; rw [hoa] at m2; cases m2; exact hij rfl)]
        exact m2
theorem SR.frzI : ∀ (is : List Nat) {ow : Ow} {σd : St}, SR U H0 ow0 ow σ H σd s → ∃ ow', SR U H0 ow0 ow' σ H (Py.frz σd is) s ∧ Keep U ow ow' H H
  | [], ow, σd, S => ⟨ow, S, Keep.refl⟩
  | i :: is, ow, σd, S => by
    unfold Py.frz
    split
    · rename_i h
      obtain ⟨ow', S', k'⟩ := S.frz1 h
      obtain ⟨ow2, S2, k2⟩ := SR.frzI is S'
      exact ⟨ow2, S2, k'.trans k2⟩
    · exact SR.frzI is S
theorem SR.frz (xs : List Str) {ow : Ow} {σd : St} (S : SR U H0 ow0 ow σ H σd s) : ∃ ow', SR U H0 ow0 ow' σ H (freeze Γ σd xs) s ∧ Keep U ow ow' H H := SR.frzI _ S
/-- a new list stands in slot i and is its own -/
theorem SR.setOwn (S : SR U H0 ow0 ow σ H σd s) (e : Ext U H H1) (c : Cap U H1 s1) {i : Nat} {d : Py.D} {v : V} (rf : RF U ow H H1 d v) : ∃ ow', SR U H0 ow0 ow' (σ.set i (some v)) H1 (σd.set i (some (d, true))) s1 ∧ Keep U ow ow' H H1 := by
  obtain ⟨a, u0, ev, hn, ha, hc, r⟩ := rf
  have kp : Keep U ow (fun b => if b = a then some (i + 1) else ow b) H H1 := fun b u hb ho z => ⟨e b u hb z, by
    show (if b = a then some (i + 1) else ow b) = none
    rw [if_neg (ne_of_none z hn)]; exact ho⟩
  have h0 : H0 a = none := S.base.none hc hn
  refine ⟨fun b => if b = a then some (i + 1) else ow b, ⟨fun b z => ?_, ?_, ?_, fun b j z => ?_, fun b u z => ?_, S.base.trans e, fun j e' o' hj => ?_, c, by rw [List.length_set, List.length_set]; exact S.len⟩, kp⟩
  · have z : (if b = a then some (i + 1) else ow b) ≠ none := z
    by_cases hb : b = a
    · subst hb; exact ⟨_, ha, (r 0).notTup⟩
    · rw [if_neg hb] at z
      obtain ⟨u, hu, ht⟩ := S.trk b z
      exact ⟨u, e b u (fun q => by rw [q] at z; exact z S.capo) hu, ht⟩
  · show (if U.cap = a then some (i + 1) else ow U.cap) = none
    rw [if_neg (fun z => hc z.symm)]; exact S.capo
  · show (if U.cell = a then some (i + 1) else ow U.cell) = none
    rw [if_neg (ne_of_none S.cap.cells hn)]; exact S.cello
  · have z : (if b = a then some (i + 1) else ow b) = some (j + 1) := z
    by_cases hb : b = a
    · subst hb; exact h0
    · rw [if_neg hb] at z; exact S.own0 b j z
  · show (if b = a then some (i + 1) else ow b) = ow0 b
    rw [if_neg (ne_of_none z h0)]; exact S.agr b u z
  · by_cases hij : i = j
    · subst hij
      have hl : i < σd.length := by
        by_cases z : i < σd.length
        · exact z
        · rw [List.getElem?_eq_none (by rw [List.length_set]; omega)] at hj; cases hj
      rw [List.getElem?_set_self hl] at hj
      cases hj
      exact ⟨v, List.getElem?_set_self (by rw [← S.len]; exact hl), fun z => (nomatch z), fun _ => ⟨a, u0, ev, ha, by show (if a = a then some (i + 1) else ow a) = _; rw [if_pos rfl], hc, r (i + 1)⟩⟩
    · rw [List.getElem?_set_ne hij] at hj
      obtain ⟨v', hv', k2, k3⟩ := S.slots j e' o' hj
      refine ⟨v', by rw [List.getElem?_set_ne hij]; exact hv', fun z => Rp.mono kp _ _ (k2 z), fun z => ?_⟩
      obtain ⟨a', u', e2, m1, m2, m3, m4⟩ := k3 z
      refine ⟨a', u', e2, e a' _ m3 m1, ?_, m3, Sh.mono kp m4⟩
      show (if a' = a then some (i + 1) else ow a') = some (j + 1)
      rw [if_neg (ne_of_none m1 hn)]
      exact m2
/-- an own list, an own dict is changed -/
theorem SR.mutU (S : SR U H0 ow0 ow σ H σd s) {i : Nat} {d0 d' : Py.D} {a : Addr} {u' : HO} (hs : σd[i]? = some (some (d0, true))) (hv : σ[i]? = some (some (.ref a))) (ho : ow a = some (i + 1)) (hc : a ≠ U.cap) (r : Sh U ow H d' u') :
    SR U H0 ow0 ow σ (upd H a u') (σd.set i (some (d', true))) s ∧ Keep U ow ow H (upd H a u') := by
  have kp : Keep U ow ow H (upd H a u') := fun b u hb hob z => ⟨by rw [upd_ne (fun q => by subst q; rw [ho] at hob; cases hob)]; exact z, hob⟩
  have h0 : H0 a = none := S.own0 a i ho
  have hcell : U.cell ≠ a := fun z => by subst z; rw [S.cello] at ho; cases ho
  refine ⟨⟨fun b z => ?_, S.capo, S.cello, S.own0, S.agr, fun b u hb z => ?_, fun j e' o' hj => ?_, ⟨?_, ?_, S.cap.ne⟩, by rw [List.length_set]; exact S.len⟩, kp⟩
  · by_cases hb : b = a
    · subst hb; exact ⟨_, upd_same, r.notTup⟩
    · rw [upd_ne hb]; exact S.trk b z
  · rw [upd_ne (ne_of_none z h0)]; exact S.base b u hb z
  · by_cases hij : i = j
    · subst hij
      have hl : i < σd.length := by
        by_cases z : i < σd.length
        · exact z
        · rw [List.getElem?_eq_none (by omega)] at hs; cases hs
      rw [List.getElem?_set_self hl] at hj
      cases hj
      exact ⟨_, hv, fun z => (nomatch z), fun _ => ⟨a, u', rfl, upd_same, ho, hc, Sh.mono kp r⟩⟩
    · rw [List.getElem?_set_ne hij] at hj
      obtain ⟨v', hv', k2, k3⟩ := S.slots j e' o' hj
      refine ⟨v', hv', fun z => Rp.mono kp _ _ (k2 z), fun z => ?_⟩
      obtain ⟨a', u2, e2, m1, m2, m3, m4⟩ := k3 z
      exact ⟨a', u2, e2, by rw [upd_ne (fun q => by subst q; rw [ho] at m2; cases m2; exact hij rfl)]; exact m1, m2, m3, Sh.mono kp m4⟩
  · rw [upd_ne (fun z => hc z.symm)]; exact S.cap.row
  · rw [upd_ne hcell]; exact S.cap.cells
theorem SR.mut (S : SR U H0 ow0 ow σ H σd s) {i : Nat} {ds ds' : List Py.D} {a : Addr} {xs xs' : List V} (hs : σd[i]? = some (some (.list ds, true))) (hv : σ[i]? = some (some (.ref a))) (ha : H a = some (.lst xs)) (ho : ow a = some (i + 1)) (hc : a ≠ U.cap) (r : RpL U ow H ds' xs') :
    SR U H0 ow0 ow σ (upd H a (.lst xs')) (σd.set i (some (.list ds', true))) s ∧ Keep U ow ow H (upd H a (.lst xs')) := S.mutU hs hv ho hc (.inl ⟨ds', xs', rfl, rfl, r⟩)
/-- what a list that a name owns is -/
theorem ownL_ok {x : Str} {i : Nat} {ds : List Py.D} (h : ownL Γ σd x = some (i, ds)) : okName x = true ∧ slot Γ x = some i ∧ σd[i]? = some (some (.list ds, true)) := by
  unfold ownL at h
  split at h
  · rename_i hh
    split at h
    · rename_i j hj
      split at h
      · rename_i ds' hd
        cases h
        exact ⟨hh.1, hj, hd⟩
      · cases h
    · cases h
  · cases h
theorem SR.owned (S : SR U H0 ow0 ow σ H σd s) {i : Nat} {ds : List Py.D} (h : σd[i]? = some (some (.list ds, true))) : ∃ a xs, σ[i]? = some (some (.ref a)) ∧ H a = some (.lst xs) ∧ ow a = some (i + 1) ∧ a ≠ U.cap ∧ RpL U ow H ds xs := by
  obtain ⟨v, hv, _, h3⟩ := S.slots i _ _ h
  obtain ⟨a, u, ev, ha, ho, hc, r⟩ := h3 rfl
  obtain ⟨xs, eu, r2⟩ := r.list
  subst ev eu
  exact ⟨a, xs, hv, ha, ho, hc, r2⟩
theorem ownD_ok {x : Str} {i : Nat} {ds : List (Py.D × Py.D)} (h : ownD Γ σd x = some (i, ds)) : okName x = true ∧ slot Γ x = some i ∧ σd[i]? = some (some (.dict ds, true)) := by
  unfold ownD at h
  split at h
  · rename_i hh
    split at h
    · rename_i j hj
      split at h
      · rename_i ds' hd
        cases h
        exact ⟨hh.1, hj, hd⟩
      · cases h
    · cases h
  · cases h
theorem SR.ownedD (S : SR U H0 ow0 ow σ H σd s) {i : Nat} {ds : List (Py.D × Py.D)} (h : σd[i]? = some (some (.dict ds, true))) : ∃ a xs, σ[i]? = some (some (.ref a)) ∧ H a = some (.dK xs) ∧ ow a = some (i + 1) ∧ a ≠ U.cap ∧ RpD U ow H ds xs := by
  obtain ⟨v, hv, _, h3⟩ := S.slots i _ _ h
  obtain ⟨a, u, ev, ha, ho, hc, r⟩ := h3 rfl
  obtain ⟨xs, eu, r2⟩ := r.dict
  subst ev eu
  exact ⟨a, xs, hv, ha, ho, hc, r2⟩
/-- stE by what the parts promise -/
theorem Wp.of_stE {α : Type} {m : M α} {σ : St} {kk : α → M Flow} {Q : Flow → DS → Prop} (w : Wp (stE m σ kk) s Q fun _ _ => False) : Wp m s (fun a s' => Wp (kk a) s' Q fun _ _ => False) fun x s' => Q (.rz x σ) s' := by
  unfold Wp at w ⊢
  unfold stE at w
  cases e : m s with
  | ok a s' => rw [e] at w; exact w
  | exc x s' => rw [e] at w; exact w
  | fail => rw [e] at w; exact w
theorem rzX (S : SR U H0 ow0 ow σ H σd s) {Hk : Hp} {owk : Ow} {x : Exc} {s' : DS} (q : PostF U H0 ow0 Hk owk W D (.rz x σd) s') : PostX U W σ H x s' := fun cls od H' e c r => q ow σ H' cls od (S.ext e c) r
end
end Py

set_option Elab.async false
set_option linter.all false
set_option maxRecDepth 100000
set_option maxHeartbeats 1000000
namespace Py
open PySem PySem.Spec PyProof.Rows L2
section
variable {U : Wd} {k : Nat} {Γ : Cxt} {X : Cx} {W : WX} {G : Gs} {ow ow0 : Ow} {H H0 H1 : Hp} {s s1 : DS} {σ : L2.St} {σd : St} {D : Ends} {ev : Cxt → St → Expr → M Py.D}
theorem nx1_wp {o : Option St} {Q : Flow → DS → Prop} {E : Exc → DS → Prop} (w : Wp (nx1 o) s Q E) : ∃ σ', o = some σ' ∧ Q (.nx σ') s := by
  unfold nx1 lift at w
  cases o with
  | none => exact w.of_fail.elim
  | some σ' => exact ⟨σ', rfl, w.of_pure⟩
theorem setOk_ok {x : Str} (h : setOk Γ x = true) : okName x = true ∧ (Γ.st.names.lookup x = some .local ∨ Γ.st.names.lookup x = some .cell) ∧ ∃ i, Γ.N.idxOf? x = some i := by
  unfold setOk at h
  simp only [Bool.and_eq_true] at h
  refine ⟨h.1.1, ?_, Option.isSome_iff_exists.mp h.2⟩
  have h2 := h.1.2
  split at h2
  · rename_i e; exact .inl e
  · rename_i e; exact .inr e
  · cases h2
theorem setN_i {x : Str} {i : Nat} {d : Py.D} {o : Bool} {σ' : St} (hi : Γ.N.idxOf? x = some i) (h : setN Γ σd x d o = some σ') : σ' = σd.set i (some (d, o)) := by
  obtain ⟨j, _, _, hj, _, e⟩ := setN_ok h
  rw [hi] at hj; cases hj
  exact e
theorem asg_imp {x : Str} {e : Expr} {i : Nat} (hi : Γ.N.idxOf? x = some i) (hok : setOk Γ x = true) (h : tOfS U W (fun σ => stAsg G ev Γ σ x e) D σ H) :
    tOf U W (fun σ => ev Γ σ e) (freshE G 40 e) σ H (fun v H1 => D.nx (σ.set i (some v)) H1) := by
  obtain ⟨H0, ow0, Hk, owk, ow, σd, s, S, kk, w⟩ := h
  have w : Wp (stAsg G ev Γ σd x e) s _ _ := w
  unfold stAsg at w
  rw [if_pos hok] at w
  have w := w.of_stE
  obtain ⟨ow', S', k'⟩ := S.frz (esc G Γ.sc 40 e) (Γ := Γ)
  refine ⟨H0, ow0, ow', _, s, S', w.mono (fun d s' q v H' e' c r rf => ?_) (fun x s' q => rzX S' q)⟩
  obtain ⟨σ', hs, q⟩ := nx1_wp q
  have hs := setN_i hi hs
  subst hs
  cases hf : freshE G 40 e d with
  | false =>
    rw [hf] at q
    exact q _ _ _ ((S'.ext e' c).set r) (kk.trans (k'.trans e'.keep))
  | true =>
    rw [hf] at q
    obtain ⟨ow2, S2, k2⟩ := S'.setOwn e' c (i := i) (rf hf)
    exact q _ _ _ S2 (kk.trans (k'.trans k2))
theorem asg_bad {x : Str} {e : Expr} {p pos : Pos} (hok : setOk Γ x ≠ true) : PS X (.Assign [.Name x p] e pos) (tOfS U W (fun σ => stAsg G ev Γ σ x e)) := PS.fails fun σ => by
  unfold stAsg; rw [if_neg hok]
theorem stE_fail {α : Type} {σ : St} {kk : α → M Flow} : stE (fail : M α) σ kk = fail := rfl
theorem asg_fail {x : Str} {e : Expr} {p pos : Pos} (h : ∀ σ, ev Γ σ e = fail) : PS X (.Assign [.Name x p] e pos) (tOfS U W (fun σ => stAsg G ev Γ σ x e)) := PS.fails fun σ => by
  unfold stAsg
  split
  · rw [h]; rfl
  · rfl
/-- x = e, stored behind the value -/
theorem ps_asg1 (g : GoodS U k Γ X W) {x : Str} {e : Expr} {p pos : Pos} (he : PE X e (tOf U W (fun σ => ev Γ σ e) (freshE G 40 e))) (hs : swapsWith e (some (.Name x p)) pos.line X.env = pure false) :
    PS X (.Assign [.Name x p] e pos) (tOfS U W (fun σ => stAsg G ev Γ σ x e)) := by
  by_cases hok : setOk Γ x = true
  · obtain ⟨h1, h2, i, hi⟩ := setOk_ok hok
    obtain ⟨l1, l2⟩ := loc_ok g.toGood h2
    exact PS.imp (ps_set (i := i) (by rw [g.N]; exact g.nd) (by rw [g.N]; exact idxOf_get hi) l1 he hs l2) fun D σ H h => asg_imp hi hok h
  · exact asg_bad hok
/-- x = [.. for ..] -/
theorem ps_asgC (g : GoodS U k Γ X W) (go : GlOk U k G) (gf : FnsOk U k G) {x : Str} {p pos spos : Pos} {elt tg it : Expr} {ifs : List Expr} {sc : Scope} {n : Nat} :
    PS X (.Assign [.Name x p] (.ListComp elt [⟨tg, it, ifs, 0⟩] sc spos) pos) (tOfS U W (fun σ => stAsg G (evE G (n + 1)) Γ σ x (.ListComp elt [⟨tg, it, ifs, 0⟩] sc spos))) := by
  have h := snd_E go gf n
  have hE' : ∀ {Γ X W}, Good U k Γ X W → ∀ e, PE X e (tOf U W (fun σ => evE G n Γ σ e) fun _ => false) := fun g e => PE.weak ((h _ _ _ g e).1 0) (fun d z => by cases z)
  have hE := fun e => hE' g.toGood e
  have hP : ∀ e, PE X e (tOfP U W (fun σ => evP G Γ σ (evE G n Γ σ) e)) := fun e => pe_evP g.toGood go (hE e)
  by_cases hok : setOk Γ x = true
  case neg => exact asg_bad hok
  by_cases hb : L2.blkC Γ.N Γ.sc sc (ownOf Γ.N tg) = true
  case neg => exact asg_fail fun σ => by show (if _ then _ else _) = _; rw [if_neg hb]
  obtain ⟨h1, h2, i, hi⟩ := setOk_ok hok
  obtain ⟨l1, l2⟩ := loc_ok g.toGood h2
  have pi := pi_iterE (tg := tg) (it := it) g.toGood go (srcE U) (f := fun σ => evP G Γ σ (evE G n Γ σ)) hP
  rcases pi.2 with hsf | hsf
  case inr =>
    exact asg_fail fun σ => by
      show (if _ then _ else _) = _
      rw [if_pos hb, hsf]
      rfl
  by_cases hsw : (X.env.blockKind == .function && X.env.kindOf x == some .local && p.line == spos.line && !(sc.names.any fun (n, k) => n == x && (k == .local || k == .cell))) = true
  · have hyl : X.env.scope.names.lookup x = some .local := by
      simp only [Bool.and_eq_true] at hsw
      have : X.env.kindOf x = some .local := by simpa using hsw.1.1.2
      exact this
    have ok : BlkOk X.N X.env.scope sc (ownOf Γ.N tg) := by rw [g.N, g.sc]; exact blkOk_by hb
    refine PS.imp (ps_setLc (i := i) (g := gOf U ⟨Γ.N, L2.relS sc Γ.sc, sc⟩ tg ((ownOf Γ.N tg).map (·.2))) (tt := tOfT U W0 (fun σ => ifsE (evE G n ⟨Γ.N, L2.relS sc Γ.sc, sc⟩ σ) ifs)) (te := tOf U W0 (fun σ => evE G n ⟨Γ.N, L2.relS sc Γ.sc, sc⟩ σ elt) fun _ => false)
      g.calm (by rw [g.N]; exact g.nd) (by rw [g.N]; exact idxOf_get hi) hyl ?_ pi.1 ok
      (fun s H C cl fp => pg_I (good_blk g.toGood) tg) (fun s H C cl fp => pts_I (f := fun σ => evE G n ⟨Γ.N, L2.relS sc Γ.sc, sc⟩ σ) (fun e => (h _ _ W0 (good_blk g.toGood) e).2) ifs) (fun s H C cl fp => hE' (good_blk g.toGood) elt) hsf) fun D σ H q => ?_
    · show (pure _ : Sem Bool) = pure true
      exact congrArg pure hsw
    · refine comp_imp g.toGood ?_
      refine tOf.to (fun σ => ?_) (tOf.weak (fr' := isL) (fun d z => ?_) (asg_imp hi hok q))
      · show (if _ then _ else _) = _
        rw [if_pos hb]
      · exact z
  · refine ps_asg1 g ((snd_E go gf (n + 1) Γ X W g.toGood _).1 40) ?_
    show (pure _ : Sem Bool) = pure false
    exact congrArg pure (Bool.eq_false_iff.mpr hsw)
/-- x = [.. for .. for ..] -/
theorem ps_asgC2 (g : GoodS U k Γ X W) (go : GlOk U k G) (gf : FnsOk U k G) {x : Str} {p pos spos : Pos} {elt tg it tg1 it1 : Expr} {ifs ifs1 : List Expr} {sc : Scope} {n : Nat} :
    PS X (.Assign [.Name x p] (.ListComp elt [⟨tg, it, ifs, 0⟩, ⟨tg1, it1, ifs1, 0⟩] sc spos) pos) (tOfS U W (fun σ => stAsg G (evE G (n + 1)) Γ σ x (.ListComp elt [⟨tg, it, ifs, 0⟩, ⟨tg1, it1, ifs1, 0⟩] sc spos))) := by
  have h := snd_E go gf n
  have hE' : ∀ {Γ X W}, Good U k Γ X W → ∀ e, PE X e (tOf U W (fun σ => evE G n Γ σ e) fun _ => false) := fun g e => PE.weak ((h _ _ _ g e).1 0) (fun d z => by cases z)
  have hE := fun e => hE' g.toGood e
  have hP : ∀ e, PE X e (tOfP U W (fun σ => evP G Γ σ (evE G n Γ σ) e)) := fun e => pe_evP g.toGood go (hE e)
  by_cases hok : setOk Γ x = true
  case neg => exact asg_bad hok
  by_cases hb : L2.blkC Γ.N Γ.sc sc (own2 Γ.N tg tg1) = true ∧ isSet it1 = false
  case neg => exact asg_fail fun σ => by show (if _ then _ else _) = _; rw [if_neg hb]
  obtain ⟨h1, h2, i, hi⟩ := setOk_ok hok
  obtain ⟨l1, l2⟩ := loc_ok g.toGood h2
  have pi := pi_iterE (tg := tg) (it := it) g.toGood go (srcE U) (f := fun σ => evP G Γ σ (evE G n Γ σ)) hP
  rcases pi.2 with hsf | hsf
  case inr =>
    exact asg_fail fun σ => by
      show (if _ then _ else _) = _
      rw [if_pos hb, hsf]
      rfl
  by_cases hsw : (X.env.blockKind == .function && X.env.kindOf x == some .local && p.line == spos.line && !(sc.names.any fun (n, k) => n == x && (k == .local || k == .cell))) = true
  · have hyl : X.env.scope.names.lookup x = some .local := by
      simp only [Bool.and_eq_true] at hsw
      have : X.env.kindOf x = some .local := by simpa using hsw.1.1.2
      exact this
    have ok : BlkOk X.N X.env.scope sc (own2 Γ.N tg tg1) := by rw [g.N, g.sc]; exact blkOk_by hb.1
    have hq : ∀ (Y : Cx), Good U k ⟨Γ.N, L2.relS sc Γ.sc, sc⟩ Y W0 → ∀ e, PE Y e (tOfQ U W0 (Rp U) (fun σ => evE G n ⟨Γ.N, L2.relS sc Γ.sc, sc⟩ σ e)) := fun Y gY e => PE.imp (hE' gY e) fun σ H Q h => by
      obtain ⟨H0, ow0, ow, σd, s, S, w⟩ := h
      exact ⟨H0, ow0, ow, σd, s, S, w.mono (fun d s' q v H' e c r _ => q v H' e c r) fun _ _ h => h⟩
    refine PS.imp (ps_setLc2 (i := i) (g := gOf U ⟨Γ.N, L2.relS sc Γ.sc, sc⟩ tg ((ownOf Γ.N tg).map (·.2))) (tt := tOfT U W0 (fun σ => ifsE (evE G n ⟨Γ.N, L2.relS sc Γ.sc, sc⟩ σ) ifs)) (wi1 := tOfI U W0 (fun σ => iterE G ⟨Γ.N, L2.relS sc Γ.sc, sc⟩ (evE G n ⟨Γ.N, L2.relS sc Γ.sc, sc⟩ σ) tg1 it1) (RlK U)) (g1 := gOf U ⟨Γ.N, L2.relS sc Γ.sc, sc⟩ tg1 ((ownOf Γ.N tg1).map (·.2))) (tt1 := tOfT U W0 (fun σ => ifsE (evE G n ⟨Γ.N, L2.relS sc Γ.sc, sc⟩ σ) ifs1)) (te := tOf U W0 (fun σ => evE G n ⟨Γ.N, L2.relS sc Γ.sc, sc⟩ σ elt) fun _ => false)
      g.calm (by rw [g.N]; exact g.nd) (by rw [g.N]; exact idxOf_get hi) hyl ?_ pi.1 ok hv2
      (fun s H C cl fp => pg_I (good_blk g.toGood) tg) (fun s H C cl fp => pts_I (f := fun σ => evE G n ⟨Γ.N, L2.relS sc Γ.sc, sc⟩ σ) (fun e => (h _ _ W0 (good_blk g.toGood) e).2) ifs)
      (fun s H C cl fp => (pi_iterE (good_blk g.toGood) go (srcK U) (f := fun σ => evE G n ⟨Γ.N, L2.relS sc Γ.sc, sc⟩ σ) (hq _ (good_blk g.toGood))).1)
      (fun s H C cl fp => pg_I (good_blk g.toGood) tg1) (fun s H C cl fp => pts_I (f := fun σ => evE G n ⟨Γ.N, L2.relS sc Γ.sc, sc⟩ σ) (fun e => (h _ _ W0 (good_blk g.toGood) e).2) ifs1) (fun s H C cl fp => hE' (good_blk g.toGood) elt) hsf (fold2 hb.2)) fun D σ H q => ?_
    · show (pure _ : Sem Bool) = pure true
      exact congrArg pure hsw
    · refine comp2_imp g.toGood ?_
      refine tOf.to (fun σ => ?_) (tOf.weak (fr' := isL) (fun d z => ?_) (asg_imp hi hok q))
      · show (if _ then _ else _) = _
        rw [if_pos hb]
      · exact z
  · refine ps_asg1 g ((snd_E go gf (n + 1) Γ X W g.toGood _).1 40) ?_
    show (pure _ : Sem Bool) = pure false
    exact congrArg pure (Bool.eq_false_iff.mpr hsw)
theorem ps_asgA (g : GoodS U k Γ X W) (go : GlOk U k G) (gf : FnsOk U k G) {x : Str} {e : Expr} {p pos : Pos} {n : Nat} : PS X (.Assign [.Name x p] e pos) (tOfS U W (fun σ => stAsg G (evE G n) Γ σ x e)) := by
  cases n with
  | zero => exact asg_fail fun σ => rfl
  | succ n =>
    have he := (snd_E go gf (n + 1) Γ X W g.toGood e).1 40
    cases e with
    | ListComp elt gens sc spos =>
      match gens with
      | [⟨tg, it, ifs, .ofNat 0⟩] => exact ps_asgC g go gf
      | [] => exact asg_fail fun σ => rfl
      | [⟨tg, it, ifs, .negSucc _⟩] => exact asg_fail fun σ => rfl
      | [⟨tg, it, ifs, .ofNat (_ + 1)⟩] => exact asg_fail fun σ => rfl
      | [⟨tg, it, ifs, .ofNat 0⟩, ⟨tg1, it1, ifs1, .ofNat 0⟩] => exact ps_asgC2 g go gf
      | [⟨_, _, _, .ofNat 0⟩, ⟨_, _, _, .negSucc _⟩] => exact asg_fail fun _ => rfl
      | [⟨_, _, _, .ofNat 0⟩, ⟨_, _, _, .ofNat (_ + 1)⟩] => exact asg_fail fun _ => rfl
      | [⟨_, _, _, .negSucc _⟩, _] => exact asg_fail fun _ => rfl
      | [⟨_, _, _, .ofNat (_ + 1)⟩, _] => exact asg_fail fun _ => rfl
      | g1 :: g2 :: _ :: _ => exact asg_fail fun _ => by rcases g1 with ⟨_, _, _, (_ | _) | _⟩ <;> rcases g2 with ⟨_, _, _, (_ | _) | _⟩ <;> rfl
    | SetComp _ _ _ _ => exact asg_fail fun σ => rfl
    | DictComp _ _ _ _ _ => exact asg_fail fun σ => rfl
    | _ => exact ps_asg1 g he rfl
end
end Py

set_option Elab.async false
set_option linter.all false
set_option maxRecDepth 100000
set_option maxHeartbeats 1000000
namespace Py
open PySem PySem.Spec PyProof.Rows L2
section
variable {U : Wd} {k : Nat} {Γ : Cxt} {X : Cx} {W : WX} {G : Gs} {ow ow0 : Ow} {H H0 H1 : Hp} {s s1 : DS} {σ : L2.St} {σd : St} {D : Ends} {ev : Cxt → St → Expr → M Py.D}
theorem PS.failF {e : Stmt} {m : St → M Flow} (h : ∀ σ, m σ = fail) : PS X e (tOfS U W m) := PS.fails h
/-- target = e, names or a tuple of them -/
theorem ps_tup1 (g : GoodS U k Γ X W) {tg e : Expr} {pos : Pos} {fr : Py.D → Bool} (he : PE X e (tOf U W (fun σ => ev Γ σ e) fr)) (hs : swapsWithSole [tg] e pos.line X.env = pure false) (hw : swappedStores [tg] e X.env = pure none)
    (h1 : (assignEach [tg] X.env).map (·.2) = [assign tg X.env]) :
    PS X (.Assign [tg] e pos) (tOfS U W (fun σ => stTup G ev Γ σ tg e)) := by
  refine PS.imp (ps_asg he (pg_I g.toGood tg) hs hw h1) fun D σ H h => ?_
  obtain ⟨H0, ow0, Hk, owk, ow, σd, s, S, kk, w⟩ := h
  have w : Wp (stTup G ev Γ σd tg e) s _ _ := w
  unfold stTup at w
  have w := w.of_stE
  obtain ⟨ow', S', k'⟩ := S.frz (esc G Γ.sc 40 e) (Γ := Γ)
  refine ⟨H0, ow0, ow', _, s, S', w.mono (fun d s' q v H' e' c r rf => ?_) (fun x s' q => rzX S' q)⟩
  obtain ⟨σ', hb, q⟩ := nx1_wp q
  exact ⟨H0, ow0, ow', _, s', d, σ', S'.ext e' c, r, bindT_to hb, fun σ2 S2 _ => q _ _ _ S2 (kk.trans (k'.trans e'.keep))⟩
/-- the name of a list that it owns -/
theorem pv_own (g : Good U k Γ X W) {l : Str} {i : Nat} {p : Pos} (hok : okName l = true) (hs : slot Γ l = some i) : PE X (.Name l p) (tVar i) := by
  obtain ⟨hd, hcd, _⟩ := okName_d hok
  obtain ⟨hk, hN⟩ := slot_get hs
  exact pe_var (by rw [g.N]; exact hN) (by rw [g.sc]; exact kindL_vis hk) hd hcd
theorem ownL_none {l : Str} (h : ¬ (okName l = true ∧ (slot Γ l).isSome = true)) : ownL Γ σd l = none := by
  cases e : ownL Γ σd l with
  | none => rfl
  | some p =>
    obtain ⟨a, b, _⟩ := ownL_ok (i := p.1) (ds := p.2) e
    exact absurd ⟨a, by rw [b]; rfl⟩ h
def rSetA : TSet := fun o i v H Q => rSetL o i v H Q ∨ ∃ a H', o = .ref a ∧ DPut H a i v H' ∧ Q H'
theorem set_any (hu : X.A.units + 1 < cLine) : PSet X rSetA := by
  intro pins s σ H o i v ov iv u Q I ro ri rv h
  rcases h with h | ⟨a, H', eo, dp, q⟩
  · exact set_list pins s σ H o i v ov iv u Q I ro ri rv h
  · subst eo
    obtain rfl : ov = Value.ref a := ro
    exact d_setItem hu I dp ri rv fun s' I' => ⟨H', I', q⟩
/-- l[i] = e -/
theorem ps_sub1 (g : GoodS U k Γ X W) {l : Str} {i e : Expr} {p q pos : Pos} {fr fr' : Py.D → Bool} (he : PE X e (tOf U W (fun σ => ev Γ σ e) fr)) (hi : PE X i (tOf U W (fun σ => ev Γ σ i) fr'))
    (hs : swapsWithSole [.Subscript (.Name l p) i q] e pos.line X.env = pure false) (hw : swappedStores [.Subscript (.Name l p) i q] e X.env = pure none)
    (h1 : (assignEach [.Subscript (.Name l p) i q] X.env).map (·.2) = [assign (.Subscript (.Name l p) i q) X.env])
    (ha : ∀ v, assign (.Subscript (.Name l p) i q) X.env v = (do
      let ov ← holding [v] (eval (.Name l p) X.env)
      let iv ← holding [v, ov] (eval i X.env)
      standAt q
      holding [v, ov, iv] (setItem ov iv v)
      release [v, ov, iv] [])) :
    PS X (.Assign [.Subscript (.Name l p) i q] e pos) (tOfS U W (fun σ => stSub G ev Γ σ l i e)) := by
  by_cases hh : (okName l = true ∧ (slot Γ l).isSome = true) ∧ noSlice i = true
  case neg => exact PS.fails fun σ => by unfold stSub; dsimp only; rw [if_neg hh]
  have ⟨⟨hok, hsm⟩, _⟩ := hh
  obtain ⟨n, hsl⟩ := Option.isSome_iff_exists.mp hsm
  refine PS.imp (ps_asg he (pg_sub (pv_own g.toGood hok hsl) hi (set_any (by have := g.toGood.hu; omega)) ha) hs hw h1) fun D σ H h => ?_
  obtain ⟨H0, ow0, Hk, owk, ow, σd, s, S, kk, w⟩ := h
  have w : Wp (stSub G ev Γ σd l i e) s _ _ := w
  unfold stSub at w
  dsimp only at w
  rw [if_pos hh] at w
  have w := w.of_stE
  obtain ⟨ow', S', k'⟩ := S.frz (esc G Γ.sc 40 e) (Γ := Γ)
  refine ⟨H0, ow0, ow', _, s, S', w.mono (fun d s' q v H' e' c r rf => ?_) (fun x s' q => rzX S' q)⟩
  have S1 := S'.ext e' c
  cases hl : ownL Γ (freeze Γ σd (esc G Γ.sc 40 e)) l with
  | none =>
    rw [show fz G Γ σd e = freeze Γ σd (esc G Γ.sc 40 e) from rfl, hl] at q
    dsimp only at q
    cases hd : ownD Γ (freeze Γ σd (esc G Γ.sc 40 e)) l with
    | none =>
      rw [hd] at q
      exact q.of_fail.elim
    | some pr =>
      obtain ⟨j, kvs⟩ := pr
      rw [hd] at q
      obtain ⟨_, hj, hd⟩ := ownD_ok hd
      rw [hsl] at hj; cases hj
      obtain ⟨a, xs, hv, hla, hoa, hca, rl⟩ := S1.ownedD hd
      have q := Wp.of_stE q
      refine ⟨_, hv, H0, ow0, ow', _, s', S1, q.mono (fun dj s2 q2 vj H2 e2 c2 rj rfj => ?_) (fun x s' q => rzX S1 q)⟩
      have S2 := S1.ext e2 c2
      split at q2
      · rename_i kq hkk
        obtain ⟨hlt, q2⟩ := q2.of_guard
        have hla2 := e2 a _ hca hla
        have rl2 := rl.ext e2
        obtain ⟨S3, k3⟩ := S2.mutU hd hv hoa hca (.inr ⟨_, _, rfl, rfl, rl2.put hkk (r.ext e2)⟩)
        refine .inr ⟨a, _, rfl, ?_, q2.of_pure _ _ _ S3 (kk.trans (k'.trans (e'.keep.trans (e2.keep.trans k3))))⟩
        rw [keyV rj hkk]
        exact DPut.k hla2 (by rw [← rl.length, sizeLine_eq]; omega)
      · exact q2.of_fail.elim
  | some pr =>
    obtain ⟨j, ds⟩ := pr
    rw [show fz G Γ σd e = freeze Γ σd (esc G Γ.sc 40 e) from rfl, hl] at q
    obtain ⟨_, hj, hd⟩ := ownL_ok hl
    rw [hsl] at hj; cases hj
    obtain ⟨a, xs, hv, hla, hoa, hca, rl⟩ := S1.owned hd
    have q := Wp.of_stE q
    refine ⟨_, hv, H0, ow0, ow', _, s', S1, q.mono (fun dj s2 q2 vj H2 e2 c2 rj rfj => ?_) (fun x s' q => rzX S1 q)⟩
    have S2 := S1.ext e2 c2
    split at q2
    · split at q2
      · rename_i m hm
        unfold Rp at rj
        have hla2 := e2 a _ hca hla
        have rl2 := rl.ext e2
        obtain ⟨S3, k3⟩ := S2.mut hd hv hla2 hoa hca (rl2.set m (r.ext e2))
        exact .inl ⟨a, xs, _, m, rfl, rj, hla2, by rw [← rl.length]; exact hm, q2.of_pure _ _ _ S3 (kk.trans (k'.trans (e'.keep.trans (e2.keep.trans k3))))⟩
      · exact q2.of_fail.elim
    · exact q2.of_fail.elim
end
end Py

set_option Elab.async false
set_option linter.all false
set_option maxRecDepth 100000
set_option maxHeartbeats 1000000
namespace Py
open PySem PySem.Spec PyProof.Rows L2
section
variable {U : Wd} {k : Nat} {Γ : Cxt} {X : Cx} {W : WX} {G : Gs} {ow ow0 : Ow} {H H0 H1 : Hp} {s s1 : DS} {σ : L2.St} {σd : St} {D : Ends} {ev : Cxt → St → Expr → M Py.D}
theorem getLast_ix {α : Type} {xs : List α} {d : α} (h : xs.getLast? = some d) : xs[xs.length - 1]? = some d := by
  rw [← List.getLast?_eq_getElem?]; exact h
/-- l.append(e) -/
theorem ps_app1 (g : GoodS U k Γ X W) {l : Str} {e : Expr} {p q r pos : Pos} {fr : Py.D → Bool} (he : PE X e (tOf U W (fun σ => ev Γ σ e) fr)) :
    PS X (.Expr (.Call (.Attribute (.Name l p) "append" q) [e] [] r) pos) (tOfS U W (fun σ => stApp G ev Γ σ l q r e)) := by
  by_cases hq : (q.endLine == r.line) = true ∧ notStar e = true
  case neg => exact PS.fails fun σ => by unfold stApp; dsimp only; rw [if_neg hq]
  by_cases hh : okName l = true ∧ (slot Γ l).isSome = true
  case neg => exact PS.fails fun σ => by unfold stApp; dsimp only; rw [if_pos hq, ownL_none hh]
  have ⟨hok, hsm⟩ := hh
  obtain ⟨n, hsl⟩ := Option.isSome_iff_exists.mp hsm
  have hst := starEach_ns (env := X.env) (es := []) hq.2
  refine PS.imp (ps_expr (pe_bm PySem.F.plainAttrs_list PySem.F.slot_list_append PySem.F.type_list_append mt_append (pv_own g.toGood hok hsl) (pa_cons he pa_nil hst) rfl (by rw [hst]; rfl) hq.1 hst rfl) rfl) fun D σ H h => ?_
  obtain ⟨H0, ow0, Hk, owk, ow, σd, s, S, kk, w⟩ := h
  have w : Wp (stApp G ev Γ σd l q r e) s _ _ := w
  unfold stApp at w
  dsimp only at w
  rw [if_pos hq] at w
  obtain ⟨ow', S', k'⟩ := S.frz (esc G Γ.sc 40 e) (Γ := Γ)
  rw [show fz G Γ σd e = freeze Γ σd (esc G Γ.sc 40 e) from rfl] at w
  cases hl : ownL Γ (freeze Γ σd (esc G Γ.sc 40 e)) l with
  | none => rw [hl] at w; exact w.of_fail.elim
  | some pr =>
    obtain ⟨j, ds⟩ := pr
    rw [hl] at w
    obtain ⟨_, hj, hd⟩ := ownL_ok hl
    rw [hsl] at hj; cases hj
    obtain ⟨a, xs, hv, hla, hoa, hca, rl⟩ := S'.owned hd
    have w := Wp.of_stE w
    refine ⟨_, hv, .inl ⟨rfl, _, SqL.of_eq hla⟩, H0, ow0, ow', _, s, S', w.mono (fun d s2 q2 v H2 e2 c2 rv _ => ?_) (fun x s' q => rzX S' q)⟩
    obtain ⟨hlen, q2⟩ := q2.of_guard
    have S2 := S'.ext e2 c2
    have hla2 := e2 a _ hca hla
    obtain ⟨S3, k3⟩ := S2.mut hd hv hla2 hoa hca ((rl.ext e2).append (RpL.cons rv RpL.nil))
    exact ⟨a, xs, v, rfl, rfl, hla2, by rw [← rl.length]; exact hlen, q2.of_pure _ _ _ S3 (kk.trans (k'.trans (e2.keep.trans k3)))⟩
/-- l.extend(e) -/
theorem ps_ext1 (g : GoodS U k Γ X W) {l : Str} {e : Expr} {p q r pos : Pos} {fr : Py.D → Bool} (he : PE X e (tOf U W (fun σ => ev Γ σ e) fr)) :
    PS X (.Expr (.Call (.Attribute (.Name l p) "extend" q) [e] [] r) pos) (tOfS U W (fun σ => stExt G ev Γ σ l q r e)) := by
  by_cases hq : (q.endLine == r.line) = true ∧ notStar e = true
  case neg => exact PS.fails fun σ => by unfold stExt; dsimp only; rw [if_neg hq]
  by_cases hh : okName l = true ∧ (slot Γ l).isSome = true
  case neg => exact PS.fails fun σ => by unfold stExt; dsimp only; rw [if_pos hq, ownL_none hh]
  have ⟨hok, hsm⟩ := hh
  obtain ⟨n, hsl⟩ := Option.isSome_iff_exists.mp hsm
  have hst := starEach_ns (env := X.env) (es := []) hq.2
  refine PS.imp (ps_expr (pe_bm PySem.F.plainAttrs_list PySem.F.slot_list_extend PySem.F.type_list_extend mt_extend (pv_own g.toGood hok hsl) (pa_cons he pa_nil hst) rfl (by rw [hst]; rfl) hq.1 hst rfl) rfl) fun D σ H h => ?_
  obtain ⟨H0, ow0, Hk, owk, ow, σd, s, S, kk, w⟩ := h
  have w : Wp (stExt G ev Γ σd l q r e) s _ _ := w
  unfold stExt at w
  dsimp only at w
  rw [if_pos hq] at w
  obtain ⟨ow', S', k'⟩ := S.frz (esc G Γ.sc 40 e) (Γ := Γ)
  rw [show fz G Γ σd e = freeze Γ σd (esc G Γ.sc 40 e) from rfl] at w
  cases hl : ownL Γ (freeze Γ σd (esc G Γ.sc 40 e)) l with
  | none => rw [hl] at w; exact w.of_fail.elim
  | some pr =>
    obtain ⟨j, ds⟩ := pr
    rw [hl] at w
    obtain ⟨_, hj, hd⟩ := ownL_ok hl
    rw [hsl] at hj; cases hj
    obtain ⟨a, xs, hv, hla, hoa, hca, rl⟩ := S'.owned hd
    have w := Wp.of_stE w
    refine ⟨_, hv, .inl ⟨rfl, _, SqL.of_eq hla⟩, H0, ow0, ow', _, s, S', w.mono (fun d s2 q2 v H2 e2 c2 rv _ => ?_) (fun x s' q => rzX S' q)⟩
    cases d with
    | list es =>
      obtain ⟨hlen, q2⟩ := q2.of_guard
      unfold Rp at rv
      obtain ⟨b, zs, hb, nb, rz⟩ := rv
      subst hb
      have S2 := S'.ext e2 c2
      have hla2 := e2 a _ hca hla
      obtain ⟨S3, k3⟩ := S2.mut hd hv hla2 hoa hca ((rl.ext e2).append rz)
      exact ⟨a, b, xs, zs, rfl, rfl, hla2, nb.1, by rw [← rl.length, ← rz.length, ← sline_eq]; exact hlen, q2.of_pure _ _ _ S3 (kk.trans (k'.trans (e2.keep.trans k3)))⟩
    | _ => exact q2.of_fail.elim
/-- l.pop() -/
theorem ps_pop0 (g : GoodS U k Γ X W) {l : Str} {p q r pos : Pos} :
    PS X (.Expr (.Call (.Attribute (.Name l p) "pop" q) [] [] r) pos) (tOfS U W (fun σ => stPop0 Γ σ l q r)) := by
  by_cases hq : (q.endLine == r.line) = true
  case neg => exact PS.fails fun σ => by unfold stPop0; rw [if_neg hq]
  by_cases hh : okName l = true ∧ (slot Γ l).isSome = true
  case neg => exact PS.fails fun σ => by unfold stPop0; rw [if_pos hq, ownL_none hh]
  have ⟨hok, hsm⟩ := hh
  obtain ⟨n, hsl⟩ := Option.isSome_iff_exists.mp hsm
  refine PS.imp (ps_expr (pe_bm0 PySem.F.plainAttrs_list PySem.F.slot_list_pop PySem.F.type_list_pop mt_pop (pv_own g.toGood hok hsl) rfl hq) rfl) fun D σ H h => ?_
  obtain ⟨H0, ow0, Hk, owk, ow, σd, s, S, kk, w⟩ := h
  have w : Wp (stPop0 Γ σd l q r) s _ _ := w
  unfold stPop0 at w
  rw [if_pos hq] at w
  cases hl : ownL Γ σd l with
  | none => rw [hl] at w; exact w.of_fail.elim
  | some pr =>
    obtain ⟨j, ds⟩ := pr
    rw [hl] at w
    obtain ⟨_, hj, hd⟩ := ownL_ok hl
    rw [hsl] at hj; cases hj
    obtain ⟨a, xs, hv, hla, hoa, hca, rl⟩ := S.owned hd
    rcases w.of_ite with ⟨_, w⟩ | ⟨hz, w⟩
    · exact w.of_fail.elim
    have hlen := rl.length
    obtain ⟨y, hy⟩ : ∃ y, xs[xs.length - 1]? = some y := ⟨_, List.getElem?_eq_getElem (by omega)⟩
    obtain ⟨S3, k3⟩ := S.mut hd hv hla hoa hca rl.dropLast
    exact ⟨_, hv, .inl ⟨rfl, _, SqL.of_eq hla⟩, a, xs, y, rfl, rfl, hla, hy, w.of_pure _ _ _ S3 (kk.trans k3)⟩
/-- x = l.pop(..) -/
theorem ps_pop1 (g : GoodS U k Γ X W) {x l : Str} {p p' q r pos : Pos} {args : List Expr} (he : ∀ e, PE X e (tOf U W (fun σ => ev Γ σ e) fun _ => false)) :
    PS X (.Assign [.Name x p'] (.Call (.Attribute (.Name l p) "pop" q) args [] r) pos) (tOfS U W (fun σ => stPop ev Γ σ x l q r args)) := by
  by_cases hq : setOk Γ x = true ∧ (q.endLine == r.line) = true ∧ noStars args = true
  case neg => exact PS.fails fun σ => by unfold stPop; rw [if_neg hq]
  by_cases hh : okName l = true ∧ (slot Γ l).isSome = true
  case neg => exact PS.fails fun σ => by unfold stPop; rw [if_pos hq, ownL_none hh]
  have ⟨hok, hsm⟩ := hh
  obtain ⟨n, hsl⟩ := Option.isSome_iff_exists.mp hsm
  obtain ⟨h1, h2, i, hi⟩ := setOk_ok hq.1
  obtain ⟨l1, l2⟩ := loc_ok g.toGood h2
  cases args with
  | nil =>
    refine PS.imp (ps_set (i := i) (by rw [g.N]; exact g.nd) (by rw [g.N]; exact idxOf_get hi) l1 (pe_bm0 PySem.F.plainAttrs_list PySem.F.slot_list_pop PySem.F.type_list_pop mt_pop (pv_own g.toGood hok hsl) rfl hq.2.1) rfl l2) fun D σ H h => ?_
    obtain ⟨H0, ow0, Hk, owk, ow, σd, s, S, kk, w⟩ := h
    have w : Wp (stPop ev Γ σd x l q r []) s _ _ := w
    unfold stPop at w
    rw [if_pos hq] at w
    cases hl : ownL Γ σd l with
    | none => rw [hl] at w; exact w.of_fail.elim
    | some pr =>
      obtain ⟨j, ds⟩ := pr
      rw [hl] at w
      obtain ⟨_, hj, hd⟩ := ownL_ok hl
      rw [hsl] at hj; cases hj
      obtain ⟨a, xs, hv, hla, hoa, hca, rl⟩ := S.owned hd
      dsimp only at w
      cases hg : ds.getLast? with
      | none => rw [hg] at w; exact w.of_fail.elim
      | some d =>
        rw [hg] at w
        obtain ⟨σ', hs, w⟩ := nx1_wp w
        have hs := setN_i hi hs
        subst hs
        obtain ⟨y, hy, ry⟩ := rl.get (getLast_ix hg)
        rw [rl.length] at hy
        obtain ⟨S3, k3⟩ := S.mut hd hv hla hoa hca rl.dropLast
        exact ⟨_, hv, .inl ⟨rfl, _, SqL.of_eq hla⟩, a, xs, y, rfl, rfl, hla, hy, w _ _ _ (S3.set (Rp.mono k3 _ _ ry)) (kk.trans k3)⟩
  | cons e es =>
  cases es with
  | cons e2 es =>
    exact PS.fails fun σ => by
      unfold stPop
      rw [if_pos hq]
      cases ownL Γ σ l <;> rfl
  | nil =>
    have hns : notStar e = true := by have := hq.2.2; unfold noStars at this; simpa using this
    have hst := starEach_ns (env := X.env) (es := []) hns
    refine PS.imp (ps_set (i := i) (by rw [g.N]; exact g.nd) (by rw [g.N]; exact idxOf_get hi) l1 (pe_bm PySem.F.plainAttrs_list PySem.F.slot_list_pop PySem.F.type_list_pop mt_popAt (pv_own g.toGood hok hsl) (pa_cons (he e) pa_nil hst) rfl (by rw [hst]; rfl) hq.2.1 hst rfl) rfl l2) fun D σ H h => ?_
    obtain ⟨H0, ow0, Hk, owk, ow, σd, s, S, kk, w⟩ := h
    have w : Wp (stPop ev Γ σd x l q r [e]) s _ _ := w
    unfold stPop at w
    rw [if_pos hq] at w
    cases hl : ownL Γ σd l with
    | none => rw [hl] at w; exact w.of_fail.elim
    | some pr =>
      obtain ⟨j, ds⟩ := pr
      rw [hl] at w
      obtain ⟨_, hj, hd⟩ := ownL_ok hl
      rw [hsl] at hj; cases hj
      obtain ⟨a, xs, hv, hla, hoa, hca, rl⟩ := S.owned hd
      have w := Wp.of_stE w
      refine ⟨_, hv, .inl ⟨rfl, _, SqL.of_eq hla⟩, H0, ow0, ow, _, s, S, w.mono (fun dj s2 w2 vj H2 e2 c2 rj _ => ?_) (fun x s' q => rzX S q)⟩
      have S2 := S.ext e2 c2
      cases dj with
      | int jj =>
        dsimp only at w2
        cases hx : L2.ixN ds.length jj with
        | none => rw [hx] at w2; exact w2.of_fail.elim
        | some m =>
          rw [hx] at w2
          dsimp only at w2
          cases hg : ds[m]? with
          | none => rw [hg] at w2; exact w2.of_fail.elim
          | some d =>
            rw [hg] at w2
            obtain ⟨h62, w2⟩ := w2.of_guard
            obtain ⟨b1, b2⟩ := in62_ok h62
            obtain ⟨σ', hs, w2⟩ := nx1_wp w2
            have hs := setN_i hi hs
            subst hs
            have hla2 := e2 a _ hca hla
            have rl2 := rl.ext e2
            obtain ⟨y, hy, ry⟩ := rl2.get hg
            obtain ⟨S3, k3⟩ := S2.mut hd hv hla2 hoa hca (rl2.eraseIdx m)
            rw [rl.length] at hx
            unfold Rp at rj
            subst rj
            exact ⟨a, xs, jj, m, y, rfl, rfl, hla2, by omega, by omega, (ixN_seq hx).1, hy, w2 _ _ _ (S3.set (Rp.mono k3 _ _ ry)) (kk.trans (e2.keep.trans k3))⟩
      | _ => exact w2.of_fail.elim
/-- x op= e -/
theorem ip_mulW : PIp X .Mult (rI CMulW fun i j => .int (i * j)) := opI fun _ _ _ _ _ _ _ hc q => imul_int q hc.ok
def tAugQ (op : Operator) : TIp := fun x y H Q => ∃ i j c, x = .int i ∧ y = .int j ∧ augI op i j = some c ∧ Q (.int c) H
theorem ip_aug (op : Operator) : PIp X op (tAugQ op) := by
  intro pins s σ H x y v u Q I rx ry h
  obtain ⟨i, j, c, rfl, rfl, hc, q⟩ := h
  unfold augI at hc
  split at hc
  · cases hc; exact ip_add pins s σ H _ _ v u Q I rx ry ⟨i, j, rfl, rfl, q⟩
  · cases hc; exact ip_sub pins s σ H _ _ v u Q I rx ry ⟨i, j, rfl, rfl, q⟩
  · split at hc
    · rename_i hb
      cases hc; exact ip_mulW pins s σ H _ _ v u Q I rx ry ⟨i, j, rfl, rfl, hb, q⟩
    · cases hc
  · cases hc
theorem ps_aug1 (g : GoodS U k Γ X W) {x : Str} {e : Expr} {op : Operator} {p pos : Pos} {fr : Py.D → Bool} (he : PE X e (tOf U W (fun σ => ev Γ σ e) fr)) :
    PS X (.AugAssign (.Name x p) op e pos) (tOfS U W (fun σ => stAug ev Γ σ x op e)) := by
  by_cases hq : setOk Γ x = true
  case neg => exact PS.fails fun σ => by unfold stAug; rw [if_neg hq]
  obtain ⟨h1, h2, i, hi⟩ := setOk_ok hq
  obtain ⟨l1, l2⟩ := loc_ok g.toGood h2
  refine PS.imp (ps_aug (i := i) (by rw [g.N]; exact g.nd) (by rw [g.N]; exact idxOf_get hi) l1 he (ip_aug op) l2) fun D σ H h => ?_
  obtain ⟨H0, ow0, Hk, owk, ow, σd, s, S, kk, w⟩ := h
  have w : Wp (stAug ev Γ σd x op e) s _ _ := w
  unfold stAug at w
  rw [if_pos hq, hi] at w
  dsimp only at w
  split at w
  · rename_i a o hs
    obtain ⟨v, hv, r1, r2⟩ := S.slots i _ o hs
    have hvi : v = .int a := by
      cases o with
      | false => have := r1 rfl; unfold Rp at this; exact this
      | true =>
        cases (r2 rfl).soft
    subst hvi
    have w := Wp.of_stE w
    refine ⟨_, hv, H0, ow0, ow, _, s, S, w.mono (fun d s2 w2 v2 H2 e2 c2 r2 _ => ?_) (fun x s' q => rzX S q)⟩
    cases d with
    | int b =>
      dsimp only at w2
      cases hc : augI op a b with
      | none => rw [hc] at w2; exact w2.of_fail.elim
      | some c =>
        rw [hc] at w2
        obtain ⟨σ', hs', w2⟩ := nx1_wp w2
        have hs' := setN_i hi hs'
        subst hs'
        unfold Rp at r2
        exact ⟨a, b, c, rfl, r2, hc, w2 _ _ _ ((S.ext e2 c2).set Rp.int) (kk.trans e2.keep)⟩
    | _ => exact w2.of_fail.elim
  · exact w.of_fail.elim
/-- what stands at a place of a list, for an operator with a store -/
theorem pget_lst : PGet X (rIxL X.K) := by
  intro pins st sl Hh ob ik obv ikv QQ II r1 r2 hh
  obtain ⟨pp, ys, jj, zz, e1, e2, hsq, hat, fin⟩ := hh
  subst e1 e2
  cases r1
  obtain ⟨tk, rfl⟩ := r2
  obtain ⟨items, rv, isl, hsz⟩ := II.list hsq
  obtain ⟨m, s1, s2, s3, s4, s5⟩ := L2.atI_get hat
  obtain ⟨u, hu, ru⟩ := rv.get s2
  have hlen := rv.length
  have h63 := line63
  have good : EP X pins sl QQ u st := ⟨zz, Hh, II, ru, fin⟩
  by_cases hneg : jj < 0
  · have hm : (jj + (items.toArray.size : Int)).toNat = m := by
      rw [List.size_toArray, ← hlen]
      have z := s1
      rw [seqIndex_neg hneg s4] at z
      exact Option.some.inj z
    refine wpAny_getItem_list_neg isl.isList hneg ?_ ?_ ?_ good
    · rw [List.size_toArray]; omega
    · omega
    · rw [hm]; simpa using hu
  · have hm : jj.toNat = m := by
      have z := s1
      rw [seqIndex_of (by omega) s5] at z
      exact Option.some.inj z
    refine wpAny_getItem_list isl.isList (by omega) (by omega) ?_ good
    rw [hm]; simpa using hu
theorem ps_augS2 (g : GoodS U k Γ X W) {l : Str} {i e : Expr} {op : Operator} {p q pos : Pos} {fr fr' : Py.D → Bool} (he : PE X e (tOf U W (fun σ => ev Γ σ e) fr)) (hi : PE X i (tOf U W (fun σ => ev Γ σ i) fr'))
    (ha : ∀ ov iv new, augStore i ov iv new = (do holding [new, ov, iv] (setItem ov iv new); release [new, ov, iv] []; pure .next)) :
    PS X (.AugAssign (.Subscript (.Name l p) i q) op e pos) (tOfS U W (fun σ => stAugS ev Γ σ l i op e)) := by
  by_cases hh : (okName l = true ∧ (slot Γ l).isSome = true) ∧ noSlice i = true
  case neg => exact PS.fails fun σ => by unfold stAugS; rw [if_neg hh]
  have ⟨⟨hok, hsm⟩, _⟩ := hh
  obtain ⟨n, hsl⟩ := Option.isSome_iff_exists.mp hsm
  refine PS.imp (ps_augS (pv_own g.toGood hok hsl) hi pget_lst he (ip_aug op) set_list ha) fun D σ H h => ?_
  obtain ⟨H0, ow0, Hk, owk, ow, σd, s, S, kk, w⟩ := h
  have w : Wp (stAugS ev Γ σd l i op e) s _ _ := w
  unfold stAugS at w
  rw [if_pos hh] at w
  cases hl : ownL Γ σd l with
  | none => rw [hl] at w; exact w.of_fail.elim
  | some pr =>
    obtain ⟨j, ds⟩ := pr
    rw [hl] at w
    obtain ⟨_, hj, hd⟩ := ownL_ok hl
    rw [hsl] at hj; cases hj
    obtain ⟨a, xs, hv, hla, hoa, hca, rl⟩ := S.owned hd
    have w := Wp.of_stE w
    refine ⟨_, hv, H0, ow0, ow, _, s, S, w.mono (fun dj s2 w2 vj H2 e2 c2 rj _ => ?_) (fun x s' q => rzX S q)⟩
    have S2 := S.ext e2 c2
    have hla2 := e2 a _ hca hla
    have rl2 := rl.ext e2
    cases dj with
    | int jj =>
      dsimp only at w2
      unfold Rp at rj
      cases hix : L2.ixN ds.length jj with
      | none => rw [hix] at w2; exact w2.of_fail.elim
      | some m =>
        rw [hix] at w2
        dsimp only at w2
        split at w2
        · rename_i av hav
          obtain ⟨v0, hv0, rv0⟩ := rl2.get hav
          unfold Rp at rv0
          have hat : atI xs jj = some v0 := by
            unfold atI
            rw [← rl.length, hix]
            exact hv0
          have w2 := Wp.of_stE w2
          refine ⟨a, xs, jj, v0, rfl, rj, .inl (.inl hla2), hat, H0, ow0, ow, _, s2, S2, w2.mono (fun de s3 w3 ve H3 e3 c3 re _ => ?_) (fun x s' q => rzX S2 q)⟩
          have S3 := S2.ext e3 c3
          have hla3 := e3 a _ hca hla2
          have rl3 := rl2.ext e3
          cases de with
          | int b =>
            dsimp only at w3
            unfold Rp at re
            cases hc : augI op av b with
            | none => rw [hc] at w3; exact w3.of_fail.elim
            | some c =>
              rw [hc] at w3
              obtain ⟨S4, k4⟩ := S3.mut hd hv hla3 hoa hca (rl3.set m (Rp.int (b := c)))
              exact ⟨av, b, c, rv0, re, hc, a, xs, jj, m, rfl, rj, hla3, by rw [← rl.length]; exact hix, w3.of_pure _ _ _ S4 (kk.trans (e2.keep.trans (e3.keep.trans k4)))⟩
          | _ => exact w3.of_fail.elim
        · exact w2.of_fail.elim
    | _ => exact w2.of_fail.elim
end
end Py

set_option Elab.async false
set_option linter.all false
set_option maxRecDepth 100000
set_option maxHeartbeats 1000000
namespace Py
open PySem PySem.Spec PyProof.Rows L2
section
variable {U : Wd} {k : Nat} {Γ : Cxt} {X : Cx} {W : WX} {G : Gs} {ow ow0 : Ow} {H H0 H1 : Hp} {s s1 : DS} {σ : L2.St} {σd : St} {D : Ends} {ev : Cxt → St → Expr → M Py.D}
theorem isLocal_ok {sc : Scope} {x : Str} (h : isLocal sc x = true) : sc.names.lookup x = some .local := by
  unfold isLocal at h
  split at h
  · assumption
  · cases h
theorem noStar_any {vs : List Expr} (h : vs.all notStar = true) (f : Expr → Bool) (hf : ∀ e, notStar e = true → f e = false) : vs.any f = false := by
  induction vs with
  | nil => rfl
  | cons a as ih =>
    rw [List.all_cons, Bool.and_eq_true] at h
    rw [List.any_cons, ih h.2, hf a h.1]; rfl
theorem names_map {env : Env} {line : Nat} : ∀ {ts : List Expr} {xs : List Str}, namesOf ts = some xs → (∀ x ∈ xs, env.kindOf x = some .local) → (ts.all fun e => match e with
    | .Name _ q => q.line == line
    | _ => false) = true → ∀ f : Expr → Option Str, (∀ id pos, f (.Name id pos) = if env.kindOf id == some .local && pos.line == line then some id else none) → ts.filterMap f = xs
  | [], xs, h, _, _, f, _ => by cases h; rfl
  | e :: ts, xs, h, hk, hl, f, hf => by
    cases e with
    | Name x p =>
      unfold namesOf at h
      try dsimp only at h
      cases hn : namesOf ts with
      | none => rw [hn] at h; cases h
      | some ys =>
        rw [hn] at h
        cases h
        rw [List.all_cons, Bool.and_eq_true] at hl
        have h1 : (p.line == line) = true := hl.1
        have h2 := names_map hn (fun x hx => hk x (List.mem_cons_of_mem _ hx)) hl.2 f hf
        rw [List.filterMap_cons, hf, hk x List.mem_cons_self, h1]
        simp [h2]
    | _ => cases h
theorem sw_par {env : Env} {ts vs : List Expr} {xs : List Str} {pt pt2 : Pos} {kt k2 : Nat} (hk : env.scope.kind = .function) (hn : namesOf ts = some xs) (hx : ∀ x ∈ xs, env.scope.names.lookup x = some .local) (hl : oneLine ts = true)
    (h0 : (ts.length == 2 || ts.length == 3) = true) (h00 : (vs.length == ts.length) = true) (hd : (xs.eraseDups.length == xs.length) = true) (h1 : vs.all notStar = true) (h2 : vs.all (foldedForSure 8) = false) (h3 : vs.all (constantsAlone 8) = false) :
    swappedStores [.Tuple ts kt pt] (.Tuple vs k2 pt2) env = pure (some xs) := by
  have hb : env.blockKind = .function := by unfold Env.blockKind; rw [hk]; rfl
  have hlen : xs.length = ts.length := by
    have : ∀ {ts : List Expr} {xs : List Str}, namesOf ts = some xs → xs.length = ts.length := by
      intro ts
      induction ts with
      | nil => intro xs h; cases h; rfl
      | cons e ts ih =>
        intro xs h
        cases e with
        | Name x p =>
          unfold namesOf at h
          try dsimp only at h
          cases hn : namesOf ts with
          | none => rw [hn] at h; cases h
          | some ys =>
            rw [hn] at h
            cases h
            rw [List.length_cons, List.length_cons, ih hn]
        | _ => cases h
    exact this hn
  have hline : (ts.all fun e => match e with
    | .Name _ q => q.line == (ts.head?.map (·.pos.line)).getD 0
    | _ => false) = true := by
    unfold oneLine at hl
    split at hl
    · rename_i x p es
      rw [List.all_cons, Bool.and_eq_true]
      refine ⟨by show (p.line == p.line) = true; simp, hl⟩
    · cases hl
  have key := names_map hn (env := env) hx hline
  have b1 : (!(ts.length == 2 || ts.length == 3) || vs.length != ts.length || env.blockKind != ScopeKind.function) = false := by
    rw [h0, hb, bne, h00]; rfl
  have b2 : (xs.length != ts.length || xs.eraseDups.length != xs.length) = false := by
    rw [hlen, bne, bne, ← hlen, hd]; simp
  unfold swappedStores
  dsimp only
  rw [noStar_any h1 _ (by intro e h; cases e <;> first | rfl | cases h), key _ (fun _ _ => rfl), b1, b2, h2, h3]
  rfl
theorem names_short {env : Env} {line : Nat} {f : Expr → Option Str} (hf : ∀ id pos, f (.Name id pos) = if env.kindOf id == some .local && pos.line == line then some id else none) (hn : ∀ e, (∀ id pos, e ≠ .Name id pos) → f e = none) : ∀ ts : List Expr,
    (ts.all fun e => match e with
      | .Name x p => isLocal env.scope x && p.line == line
      | _ => false) = false → (ts.filterMap f).length < ts.length
  | [], h => by simp at h
  | e :: ts, h => by
    have hle : (ts.filterMap f).length ≤ ts.length := List.length_filterMap_le ..
    rw [List.all_cons, Bool.and_eq_false_iff] at h
    rw [List.filterMap_cons]
    rcases h with h | h
    · have : f e = none := by
        cases e with
        | Name x p =>
          rw [hf]
          have h : (isLocal env.scope x && p.line == line) = false := h
          have hk : (env.kindOf x == some .local) = isLocal env.scope x := by
            unfold isLocal Env.kindOf
            cases env.scope.names.lookup x with
            | none => rfl
            | some k => cases k <;> rfl
          rw [hk, h]
          rfl
        | _ => exact hn _ (by intro id pos z; cases z)
      rw [this]
      simp only [List.length_cons]
      omega
    · have ih := names_short hf hn ts h
      cases f e with
      | none => simp only [List.length_cons]; omega
      | some y => simp only [List.length_cons]; omega
theorem sw_off (g : GoodS U k Γ X W) {ts vs : List Expr} {pt pt2 : Pos} {kt k2 : Nat} (h : offPar Γ ts vs = true) : swappedStores [.Tuple ts kt pt] (.Tuple vs k2 pt2) X.env = pure none := by
  unfold offPar at h
  rw [Bool.and_eq_true, Bool.and_eq_true, Bool.and_eq_true] at h
  obtain ⟨⟨⟨h0, h00⟩, h1⟩, h2⟩ := h
  have h2 : (ts.all fun e => match e with
      | .Name x p => isLocal Γ.sc x && p.line == (ts.head?.map (·.pos.line)).getD 0
      | _ => false) = false := (Bool.not_eq_true' _).mp h2
  have hsk : X.env.scope.kind = .function := by rw [g.sc]; exact g.fk
  have hb : X.env.blockKind = .function := by unfold Env.blockKind; rw [hsk]; rfl
  have b1 : (!(ts.length == 2 || ts.length == 3) || vs.length != ts.length || X.env.blockKind != ScopeKind.function) = false := by
    rw [h0, hb, bne, h00]; rfl
  rw [← g.sc] at h2
  have hs := names_short (env := X.env) (line := (ts.head?.map (·.pos.line)).getD 0) (f := fun | .Name id pos => if X.env.kindOf id == some .local && pos.line == (ts.head?.map (·.pos.line)).getD 0 then some id else none | _ => none) (fun _ _ => rfl) (fun e he => by cases e <;> first | rfl | exact absurd rfl (he _ _)) ts h2
  unfold swappedStores
  dsimp only
  rw [noStar_any h1 _ (by intro e h; cases e <;> first | rfl | cases h), b1]
  have b2 : ((List.filterMap (fun | .Name id pos => if X.env.kindOf id == some .local && pos.line == (ts.head?.map (·.pos.line)).getD 0 then some id else none | _ => none) ts).length != ts.length) = true := by
    rw [bne_iff_ne]
    omega
  rw [if_neg (by simp), if_neg (by simp)]
  exact if_pos (by rw [Bool.or_eq_true]; exact .inl b2)
theorem parOk_ok {ts vs : List Expr} {xs : List Str} (h : parOk Γ ts vs xs = true) : (ts.length == 2 || ts.length == 3) = true ∧ (vs.length == ts.length) = true ∧ oneLine ts = true ∧ (∀ x ∈ xs, Γ.sc.names.lookup x = some .local) ∧ (xs.eraseDups.length == xs.length) = true ∧ vs.all notStar = true ∧
    vs.all (foldedForSure 8) = false ∧ vs.all (constantsAlone 8) = false := by
  unfold parOk at h
  rw [Bool.and_eq_true, Bool.and_eq_true, Bool.and_eq_true, Bool.and_eq_true, Bool.and_eq_true, Bool.and_eq_true, Bool.and_eq_true] at h
  obtain ⟨⟨⟨⟨⟨⟨⟨h1, h2⟩, h3⟩, h4⟩, h5⟩, h6⟩, h7⟩, h8⟩ := h
  refine ⟨h1, h2, h3, fun x hx => isLocal_ok (List.all_eq_true.mp h4 x hx), h5, h6, ?_, ?_⟩
  · simpa using h7
  · simpa using h8
theorem dup2 {x y : Str} (h : ([x, y].eraseDups.length == [x, y].length) = true) : x ≠ y := fun z => by
  subst z
  have : ([x, x].eraseDups) = [x] := by simp [List.eraseDups_cons]
  rw [this] at h
  simp at h
theorem dup3 {x y z : Str} (h : ([x, y, z].eraseDups.length == [x, y, z].length) = true) : x ≠ y ∧ x ≠ z ∧ y ≠ z := by
  have key : ∀ a b c : Str, ([a, b, c].eraseDups.length = 3) → a ≠ b ∧ a ≠ c ∧ b ≠ c := by
    intro a b c hh
    simp only [List.eraseDups_cons] at hh
    refine ⟨fun z => ?_, fun z => ?_, fun z => ?_⟩
    · subst z
      by_cases hb : (c == a) = true <;> simp [List.filter_cons, hb, List.eraseDups_cons] at hh
    · subst z
      by_cases hb : (b == a) = true <;> simp [List.filter_cons, hb, List.eraseDups_cons] at hh
    · subst z
      by_cases hb : (b == a) = true <;> simp [List.filter_cons, hb, List.eraseDups_cons] at hh
  exact key x y z (by simpa using h)
theorem idx_ne {N : List Str} {x y : Str} {i j : Nat} (hi : N.idxOf? x = some i) (hj : N.idxOf? y = some j) (h : x ≠ y) : i ≠ j := fun z => by
  subst z
  have a := idxOf_get hi
  rw [idxOf_get hj] at a
  cases a
  exact h rfl
/-- the part that both share -/
theorem par_imp {ts vs : List Expr} {xs : List Str} (hn : namesOf ts = some xs) (hp : parOk Γ ts vs xs = true ∧ xs.all (setOk Γ) = true) (h : tOfS U W (fun σ => stPar G ev Γ σ ts vs) D σ H) :
    ∃ H0 ow0 Hk owk ow σd s, SR U H0 ow0 ow σ H σd s ∧ Keep U owk ow Hk H ∧ Wp (evs (ev Γ σd) vs) s (fun ds s' => Wp (nx1 (setPar (vs.map (frF G 40)) σd (idxL Γ xs) ds)) s' (PostF U H0 ow0 Hk owk W D) fun _ _ => False) (PostX U W σ H) := by
  obtain ⟨H0, ow0, Hk, owk, ow, σd, s, S, kk, w⟩ := h
  have w : Wp (stPar G ev Γ σd ts vs) s _ _ := w
  unfold stPar at w
  rw [hn] at w
  dsimp only at w
  rw [if_pos hp] at w
  obtain ⟨ow', S', k'⟩ := S.frz (vs.flatMap (esc G Γ.sc 40)) (Γ := Γ)
  exact ⟨H0, ow0, Hk, owk, ow', _, s, S', kk.trans k', (Wp.of_stE w).mono (fun _ _ h => h) fun x s' q => rzX S' q⟩
/-- the new address is owned, the slots stand as before -/
theorem SR.own1 (S : SR U H0 ow0 ow σ H σd s) (e : Ext U H H1) (c : Cap U H1 s1) (i : Nat) {d : Py.D} {v : V} (rf : RF U ow H H1 d v) : ∃ ow', SR U H0 ow0 ow' σ H1 σd s1 ∧ Own U (i + 1) ow' H1 d v ∧ Keep U ow ow' H H1 ∧ ∀ b u, H b = some u → ow' b = ow b := by
  obtain ⟨a, u0, ev, hn, ha, hc, r⟩ := rf
  have kp : Keep U ow (fun b => if b = a then some (i + 1) else ow b) H H1 := fun b u hb ho z => ⟨e b u hb z, by
    show (if b = a then some (i + 1) else ow b) = none
    rw [if_neg (ne_of_none z hn)]; exact ho⟩
  have h0 : H0 a = none := S.base.none hc hn
  refine ⟨fun b => if b = a then some (i + 1) else ow b, ⟨fun b z => ?_, ?_, ?_, fun b j z => ?_, fun b u z => ?_, S.base.trans e, fun j e' o' hj => ?_, c, S.len⟩, ⟨a, u0, ev, ha, by show (if a = a then some (i + 1) else ow a) = _; rw [if_pos rfl], hc, r (i + 1)⟩, kp, fun b u hb => if_neg (ne_of_none hb hn)⟩
  · have z : (if b = a then some (i + 1) else ow b) ≠ none := z
    by_cases hb : b = a
    · subst hb; exact ⟨_, ha, (r 0).notTup⟩
    · rw [if_neg hb] at z
      obtain ⟨u, hu, ht⟩ := S.trk b z
      exact ⟨u, e b u (fun q => by rw [q] at z; exact z S.capo) hu, ht⟩
  · show (if U.cap = a then some (i + 1) else ow U.cap) = none
    rw [if_neg (fun z => hc z.symm)]; exact S.capo
  · show (if U.cell = a then some (i + 1) else ow U.cell) = none
    rw [if_neg (ne_of_none S.cap.cells hn)]; exact S.cello
  · have z : (if b = a then some (i + 1) else ow b) = some (j + 1) := z
    by_cases hb : b = a
    · subst hb; exact h0
    · rw [if_neg hb] at z; exact S.own0 b j z
  · show (if b = a then some (i + 1) else ow b) = ow0 b
    rw [if_neg (ne_of_none z h0)]; exact S.agr b u z
  · obtain ⟨v', hv', k2, k3⟩ := S.slots j e' o' hj
    refine ⟨v', hv', fun z => Rp.mono kp _ _ (k2 z), fun z => ?_⟩
    obtain ⟨a', u', e2, m1, m2, m3, m4⟩ := k3 z
    refine ⟨a', u', e2, e a' _ m3 m1, ?_, m3, Sh.mono kp m4⟩
    show (if a' = a then some (i + 1) else ow a') = some (j + 1)
    rw [if_neg (ne_of_none m1 hn)]
    exact m2
theorem SR.setO (S : SR U H0 ow0 ow σ H σd s) {i : Nat} {d : Py.D} {v : V} (r : Own U (i + 1) ow H d v) : SR U H0 ow0 ow (σ.set i (some v)) H (σd.set i (some (d, true))) s := by
  refine ⟨S.trk, S.capo, S.cello, S.own0, S.agr, S.base, fun j e o h => ?_, S.cap, by rw [List.length_set, List.length_set]; exact S.len⟩
  by_cases hj : i = j
  · subst hj
    by_cases hi : i < σd.length
    · rw [List.getElem?_set_self hi] at h
      cases h
      exact ⟨v, by rw [List.getElem?_set_self (by rw [← S.len]; exact hi)], fun z => (by cases z), fun _ => r⟩
    · rw [List.getElem?_eq_none (by simpa using hi)] at h; cases h
  · rw [List.getElem?_set_ne hj] at h ⊢
    exact S.slots j e o h
theorem Own.mono {i : Nat} {ow ow' : Ow} {H H' : Hp} {d : Py.D} {v : V} (r : Own U i ow H d v) (e : Ext U H H') (k : Keep U ow ow' H H') (ho : ∀ a, ow a = some i → H a ≠ none → ow' a = some i) : Own U i ow' H' d v := by
  obtain ⟨a, u, e1, m1, m2, m3, m4⟩ := r
  exact ⟨a, u, e1, e a u m3 m1, ho a m2 (by rw [m1]; exact fun z => nomatch z), m3, Sh.mono k m4⟩
theorem evs2_wp {f : Expr → M Py.D} {a b : Expr} {s : DS} {Q : List Py.D → DS → Prop} {E : Exc → DS → Prop} (w : Wp (evs f [a, b]) s Q E) : Wp (f a) s (fun d s1 => Wp (f b) s1 (fun e s2 => Q [d, e] s2) E) E := by
  unfold evs at w
  obtain ⟨_, w⟩ := Wp.of_guard w
  refine w.of_bind.mono (fun d s1 w => ?_) fun _ _ h => h
  unfold evs at w
  have w := w.of_bind
  obtain ⟨_, w⟩ := Wp.of_guard w
  refine w.of_bind.mono (fun e s2 w => ?_) fun _ _ h => h
  exact ((show Wp (pure [] : M (List Py.D)) s2 _ _ from w.of_bind).of_pure).of_pure.of_pure
theorem ps_par1 (g : GoodS U k Γ X W) {ts vs : List Expr} {kt k2 : Nat} {pt pt2 pos : Pos} (he : ∀ e, PE X e (tOf U W (fun σ => ev Γ σ e) (freshE G 40 e))) :
    PS X (.Assign [.Tuple ts kt pt] (.Tuple vs k2 pt2) pos) (tOfS U W (fun σ => stPar G ev Γ σ ts vs)) := by
  cases hn : namesOf ts with
  | none => exact PS.fails fun σ => by unfold stPar; rw [hn]
  | some xs =>
    by_cases hp : parOk Γ ts vs xs = true ∧ xs.all (setOk Γ) = true
    case neg =>
      refine PS.fails fun σ => ?_
      unfold stPar
      rw [hn]
      dsimp only
      rw [if_neg hp]
    obtain ⟨p1, p2, p3, p4, p5, p6, p7, p8⟩ := parOk_ok hp.1
    have hsk : X.env.scope.kind = .function := by rw [g.sc]; exact g.fk
    have hloc : ∀ x ∈ xs, X.env.scope.names.lookup x = some .local := fun x hx => by rw [g.sc]; exact p4 x hx
    have hsw : swappedStores [.Tuple ts kt pt] (.Tuple vs k2 pt2) X.env = pure (some xs) := sw_par hsk hn hloc p3 p1 p2 p5 p6 p7 p8
    have hidx : ∀ x ∈ xs, ∃ i, Γ.N.idxOf? x = some i := fun x hx => (setOk_ok (List.all_eq_true.mp hp.2 x hx)).2.2
    have pa := pa_evs (X := X) (f := ev Γ) (fun e => PE.weak (he e) (fun d z => by cases z)) vs
    match ts, vs, hn, p1, p2 with
    | [.Name x px, .Name y py], [a, b], hn, _, _ =>
      cases hn
      obtain ⟨i, hi⟩ := hidx x (by simp)
      obtain ⟨j, hj⟩ := hidx y (by simp)
      have hpar := fun {t : TA} (pa : PA X [a, b] t) => ps_par (i := i) (j := j) (pt := pt) (pt2 := pt2) (kt := kt) (k2 := k2) (pos := pos) g.calm (by rw [g.N]; exact g.nd) (by rw [g.N]; exact idxOf_get hi) (by rw [g.N]; exact idxOf_get hj) (idx_ne hi hj (dup2 p5)) (hloc x (by simp)) (hloc y (by simp)) pa hsw rfl
      have hix : idxL Γ [x, y] = [i, j] := by simp [idxL, hi, hj]
      have nsa : notStar a = true := by
        have := List.all_eq_true.mp p6 a (by simp)
        exact this
      have nsb : notStar b = true := by
        have := List.all_eq_true.mp p6 b (by simp)
        exact this
      refine PS.imp (hpar (pa_cons (he a) (pa_cons (he b) pa_nil (starEach_ns nsb)) (starEach_ns nsa))) fun D σ H h => ?_
      obtain ⟨H0, ow0, Hk, owk, ow, σd, s, S, kk, w⟩ := par_imp (ts := [.Name x px, .Name y py]) rfl hp h
      have w := evs2_wp w
      refine ⟨H0, ow0, ow, σd, s, S, w.mono (fun d1 s1 w v H1 e c r rf => ?_) fun _ _ h => h⟩
      by_cases h1 : freshE G 40 a d1 = true
      · obtain ⟨ow1, S1, o1, k1, _⟩ := S.own1 e c i (rf h1)
        refine ⟨H0, ow0, ow1, σd, s1, S1, w.mono (fun d2 s2 q v2 H2 e2 c2 r2 rf2 => ?_) fun _ _ h => h.ext e⟩
        obtain ⟨σ', hs, q⟩ := nx1_wp q
        rw [hix] at hs
        have hs : some ((σd.set i (some (d1, freshE G 40 a d1))).set j (some (d2, freshE G 40 b d2))) = some σ' := hs
        refine ⟨v, v2, rfl, ?_⟩
        by_cases h2 : freshE G 40 b d2 = true
        · obtain ⟨ow2, S2, o2, k2, old⟩ := S1.own1 e2 c2 j (rf2 h2)
          rw [h1, h2] at hs
          cases hs
          obtain ⟨a1, u1, f1, f2, f3, f4, f5⟩ := o1
          have o3 : Own U (i + 1) ow2 H2 d1 v := by
            refine ⟨a1, u1, f1, e2 a1 u1 f4 f2, ?_, f4, Sh.mono k2 f5⟩
            rw [old a1 u1 f2]; exact f3
          exact q _ _ _ ((S2.setO o3).setO o2) ((kk.trans k1).trans k2)
        · rw [h1, Bool.eq_false_iff.mpr h2] at hs
          cases hs
          exact q _ _ _ (((S1.ext e2 c2).setO (o1.ext e2)).set r2) ((kk.trans k1).trans e2.keep)
      · refine ⟨H0, ow0, ow, σd, s1, S.ext e c, w.mono (fun d2 s2 q v2 H2 e2 c2 r2 rf2 => ?_) fun _ _ h => h.ext e⟩
        obtain ⟨σ', hs, q⟩ := nx1_wp q
        rw [hix] at hs
        have hs : some ((σd.set i (some (d1, freshE G 40 a d1))).set j (some (d2, freshE G 40 b d2))) = some σ' := hs
        refine ⟨v, v2, rfl, ?_⟩
        by_cases h2 : freshE G 40 b d2 = true
        · obtain ⟨ow2, S2, o2, k2, _⟩ := (S.ext e c).own1 e2 c2 j (rf2 h2)
          rw [Bool.eq_false_iff.mpr h1, h2] at hs
          cases hs
          exact q _ _ _ ((S2.set (Rp.mono k2 _ _ r)).setO o2) ((kk.trans e.keep).trans k2)
        · rw [Bool.eq_false_iff.mpr h1, Bool.eq_false_iff.mpr h2] at hs
          cases hs
          exact q _ _ _ ((((S.ext e c).ext e2 c2).set (r.ext e2)).set r2) ((kk.trans e.keep).trans e2.keep)
    | [.Name x px, .Name y py, .Name z pz], [a, b, cc], hn, _, _ =>
      cases hn
      obtain ⟨i, hi⟩ := hidx x (by simp)
      obtain ⟨j, hj⟩ := hidx y (by simp)
      obtain ⟨l, hl⟩ := hidx z (by simp)
      obtain ⟨n1, n2, n3⟩ := dup3 p5
      refine PS.imp (ps_par3 (i := i) (j := j) (l := l) g.calm (by rw [g.N]; exact g.nd) (by rw [g.N]; exact idxOf_get hi) (by rw [g.N]; exact idxOf_get hj) (by rw [g.N]; exact idxOf_get hl) (idx_ne hi hj n1) (idx_ne hi hl n2) (idx_ne hj hl n3)
        (hloc x (by simp)) (hloc y (by simp)) (hloc z (by simp)) pa hsw rfl) fun D σ H h => ?_
      obtain ⟨H0, ow0, Hk, owk, ow, σd, s, S, kk, w⟩ := par_imp (ts := [.Name x px, .Name y py, .Name z pz]) rfl hp h
      refine ⟨H0, ow0, ow, σd, s, S, (evs_wp w).mono (fun ds s' ⟨hl', q⟩ vs H' e' c r => ?_) fun _ _ h => h⟩
      match ds, hl' with
      | [d1, d2, d3], _ =>
        obtain ⟨σ', hs, q⟩ := nx1_wp q
        have hs : setPar ([a, b, cc].map (frF G 40)) σd (idxL Γ [x, y, z]) [d1, d2, d3] = some σ' := hs
        rw [show setPar ([a, b, cc].map (frF G 40)) σd (idxL Γ [x, y, z]) [d1, d2, d3] = setAll σd (idxL Γ [x, y, z]) [d1, d2, d3] from rfl] at hs
        rw [show idxL Γ [x, y, z] = [i, j, l] from by simp [idxL, hi, hj, hl]] at hs
        cases hs
        unfold RpL at r
        obtain ⟨v, vr, rfl, r1, r⟩ := r
        unfold RpL at r
        obtain ⟨v2, vr2, rfl, r2, r⟩ := r
        unfold RpL at r
        obtain ⟨v3, vr3, rfl, r3, r⟩ := r
        unfold RpL at r
        subst r
        exact ⟨v, v2, v3, rfl, q _ _ _ ((((S.ext e' c).set r1).set r2).set r3) (kk.trans e'.keep)⟩
end
end Py

set_option Elab.async false
set_option linter.all false
set_option maxRecDepth 100000
set_option maxHeartbeats 1000000
namespace Py
open PySem PySem.Spec PyProof.Rows L2
section
variable {U : Wd} {k : Nat} {Γ : Cxt} {X : Cx} {W : WX} {G : Gs} {ow ow0 : Ow} {H H0 H1 : Hp} {s s1 : DS} {σ : L2.St} {σd : St} {D : Ends} {ev : Cxt → St → Expr → M Py.D}
theorem ps_exp1 (g : GoodS U k Γ X W) {e : Expr} {pos : Pos} {fr : Py.D → Bool} (he : PE X e (tOf U W (fun σ => ev Γ σ e) fr)) : PS X (.Expr e pos) (tOfS U W (fun σ => stExp G ev Γ σ e)) := by
  by_cases hl : listComp e = true
  · exact PS.fails fun σ => by unfold stExp; rw [if_pos hl]
  · have hs : swapsWith e none pos.line X.env = pure false := by
      cases e <;> first | rfl | exact absurd rfl hl
    refine PS.imp (ps_expr he hs) fun D σ H h => ?_
    obtain ⟨H0, ow0, Hk, owk, ow, σd, s, S, kk, w⟩ := h
    have w : Wp (stExp G ev Γ σd e) s _ _ := w
    unfold stExp at w
    rw [if_neg hl] at w
    obtain ⟨ow', S', k'⟩ := S.frz (esc G Γ.sc 40 e) (Γ := Γ)
    exact ⟨H0, ow0, ow', _, s, S', (Wp.of_stE w).mono (fun d s' q v H' e' c r rf => q.of_pure _ _ _ (S'.ext e' c) (kk.trans (k'.trans e'.keep))) (fun x s' q => rzX S' q)⟩
theorem RF.fr {H' : Hp} {d : Py.D} {v : V} (h : RF U ow H H' d v) (b : Ext U H0 H) : FrR U H0 ow H' d v := by
  obtain ⟨a, u, e2, hn, ha, hc, r⟩ := h
  exact ⟨a, u, e2, b.none hc hn, ha, hc, r 0⟩
theorem SR.ownFr (S : SR U H0 ow0 ow σ H σd s) {i : Nat} {d : Py.D} {a : Addr} {u : HO} (ha : H a = some u) (ho : ow a = some (i + 1)) (hc : a ≠ U.cap) (r : Sh U ow H d u) : FrR U H0 ow H d (.ref a) :=
  ⟨a, u, rfl, S.own0 a i ho, ha, hc, Sh.mono (fun b u _ hob e => ⟨e, by
    show (if b = a then some 0 else ow b) = none
    rw [if_neg (fun z => by subst z; rw [ho] at hob; cases hob)]; exact hob⟩) r⟩
/-- return e -/
theorem ps_ret1 (g : GoodS U k Γ X W) {e : Expr} {pos : Pos} (he : PE X e (tOf U W (fun σ => ev Γ σ e) (freshE G 40 e))) : PS X (.Return (some e) pos) (tOfS U W (fun σ => stRet G ev Γ σ e)) := by
  refine PS.imp (ps_ret he) fun D σ H h => ?_
  obtain ⟨H0, ow0, Hk, owk, ow, σd, s, S, kk, w⟩ := h
  have w : Wp (stRet G ev Γ σd e) s _ _ := w
  unfold stRet at w
  obtain ⟨ow', S', k'⟩ := S.frz Γ.N (Γ := Γ)
  exact ⟨H0, ow0, ow', _, s, S', (Wp.of_stE w).mono (fun d s' q v H' e' c r rf => q.of_pure _ _ _ _ _ (S'.ext e' c) (fun _ => r) fun z => (rf z).fr S'.base) (fun x s' q => rzX S' q)⟩
theorem ps_retN1 (g : GoodS U k Γ X W) {x : Str} {p pos : Pos} (he : PE X (.Name x p) (tOf U W (fun σ => ev Γ σ (.Name x p)) fun _ => false)) : PS X (.Return (some (.Name x p)) pos) (tOfS U W (fun σ => stRetN ev Γ σ x p)) := by
  refine ⟨fun pins s' σ H D I h => ?_⟩
  obtain ⟨H0, ow0, Hk, owk, ow, σd, s, S, kk, w⟩ := h
  have w : Wp (stRetN ev Γ σd x p) s _ _ := w
  unfold stRetN at w
  cases hl : ownL Γ σd x with
  | none =>
    rw [hl] at w
    dsimp only at w
    cases hd : ownD Γ σd x with
    | some pr =>
      obtain ⟨j, kvs⟩ := pr
      rw [hd] at w
      obtain ⟨_, w⟩ := Wp.of_guard w
      obtain ⟨hok, hj, hd⟩ := ownD_ok hd
      obtain ⟨a, xs, hv, hla, hoa, hca, rl⟩ := S.ownedD hd
      exact (ps_ret (pv_own g.toGood hok hj)).run pins s' σ H D I ⟨_, hv, w.of_pure _ _ _ _ _ S (fun z => nomatch z) fun _ => S.ownFr hla hoa hca (.inr ⟨_, _, rfl, rfl, rl⟩)⟩
    | none =>
    rw [hd] at w
    exact (ps_ret he).run pins s' σ H D I ⟨H0, ow0, ow, σd, s, S, (Wp.of_stE w).mono (fun d s' q v H' e' c r rf => q.of_pure _ _ _ _ _ (S.ext e' c) (fun _ => r) fun z => nomatch z) (fun x s' q => rzX S q)⟩
  | some pr =>
    obtain ⟨j, ds⟩ := pr
    rw [hl] at w
    obtain ⟨hok, hj, hd⟩ := ownL_ok hl
    obtain ⟨a, xs, hv, hla, hoa, hca, rl⟩ := S.owned hd
    exact (ps_ret (pv_own g.toGood hok hj)).run pins s' σ H D I ⟨_, hv, w.of_pure _ _ _ _ _ S (fun z => nomatch z) fun _ => S.ownFr hla hoa hca (.inl ⟨_, _, rfl, rfl, rl⟩)⟩
/-- raise C(".") -/
theorem ps_raise1 (g : GoodS U k Γ X W) (go : GlOk U k G) {c m : Str} {p1 p2 p3 pos : Pos} {j : Nat} : PS X (.Raise (some (.Call (.Name c p1) [.Constant (.str m) j p2] [] p3)) none pos) (tOfS U W (fun σ => stRaise G Γ σ c m)) := by
  by_cases hc : okName c = true ∧ kindG Γ.sc c = true ∧ G.exc c = true
  case neg => exact PS.fails fun σ => by unfold stRaise; rw [if_neg hc]
  obtain ⟨C, hm, hk, _⟩ := go.exc c hc.2.2
  obtain ⟨hd, _, _⟩ := okName_d hc.1
  rcases hk with ⟨hi, bmB, B, newId, initId, F, q, kC, hr⟩ | ⟨hi, fI, T⟩
  · refine PS.imp (ps_raise g.calm g.tk (pmk_own (j := j) F (by rw [g.K]; exact q) (by rw [g.mg]; exact hm) (by rw [g.K]; exact kC) (hr X g.K) (kindG_gl g.toGood hc.2.1) hd)) fun D σ H h => ?_
    obtain ⟨H0, ow0, Hk, owk, ow, σd, s, S, kk, w⟩ := h
    have w : Wp (stRaise G Γ σd c m) s _ _ := w
    unfold stRaise at w
    rw [if_pos hc, hi, if_neg Bool.false_ne_true] at w
    exact w.of_pure _ _ _ _ _ S ⟨hm, .inl ⟨rfl, rfl⟩⟩
  · refine PS.imp (ps_raise g.calm g.tk (pmk_ref (C := C) (fI := fI) (k := k) (by rw [g.P, g.K]; exact T) (by rw [g.mg]; exact hm) g.room (pa_cons pe_str pa_nil) (kindG_gl g.toGood hc.2.1) hd)) fun D σ H h => ?_
    obtain ⟨H0, ow0, Hk, owk, ow, σd, s, S, kk, w⟩ := h
    have w : Wp (stRaise G Γ σd c m) s _ _ := w
    unfold stRaise at w
    rw [if_pos hc, hi, if_pos rfl] at w
    refine ⟨.str m, rfl, fun d nd => ?_⟩
    exact w.of_pure _ _ _ _ _ (S.ext (Ext.new nd) (S.cap.new nd)) ⟨hm, .inr ⟨m, d, rfl, rfl, upd_same⟩⟩
/-! ### what holds statements -/
/-- suites -/
def SndSs (U : Wd) (k : Nat) (Γ : Cxt) (ex : St → List Stmt → M Flow) : Prop := ∀ X W, GoodS U k Γ X W → ∀ sts, PSs X sts (tOfS U W (fun σ => ex σ sts))
theorem ps_if1 (g : GoodS U k Γ X W) {ex : St → List Stmt → M Flow} (hx : SndSs U k Γ ex) {c : Expr} {a b : List Stmt} {pos : Pos} (hc : PT X c (tOfT U W (fun σ => tst (ev Γ σ) c))) :
    PS X (.If c a b pos) (tOfS U W (fun σ => stE (tst (ev Γ σ) c) σ fun t => if t = true then ex σ a else ex σ b)) := by
  refine PS.imp (ps_if hc (hx X W g a) (hx X W g b)) fun D σ H h => ?_
  obtain ⟨H0, ow0, Hk, owk, ow, σd, s, S, kk, w⟩ := h
  refine ⟨H0, ow0, ow, σd, s, S, (Wp.of_stE w).mono (fun t s' q H' e' c => ?_) (fun x s' q => rzX S q)⟩
  cases t with
  | true => exact ⟨H0, ow0, Hk, owk, ow, σd, s', S.ext e' c, kk.trans e'.keep, q⟩
  | false => exact ⟨H0, ow0, Hk, owk, ow, σd, s', S.ext e' c, kk.trans e'.keep, q⟩
theorem ps_while1 (g : GoodS U k Γ X W) {ex : St → List Stmt → M Flow} (hx : SndSs U k Γ ex) {c : Expr} {body : List Stmt} {pos : Pos} {w0 : St → Nat} (hc : PT X c (tOfT U W (fun σ => tst (ev Γ σ) c))) :
    PS X (.While c body [] pos) (tOfS U W (fun σ => whileL (fun σ => tst (ev Γ σ) c) (fun σ => ex σ body) (w0 σ) σ)) := by
  refine PS.imp (ps_while g.hp hc (hx X W g body)) fun D σ H h => ?_
  obtain ⟨H0, ow0, Hk, owk, ow, σd, s, S, kk, w⟩ := h
  refine ⟨fun m σ H => ∃ ow σd s, SR U H0 ow0 ow σ H σd s ∧ Keep U owk ow Hk H ∧ Wp (whileL (fun σ => tst (ev Γ σ) c) (fun σ => ex σ body) m σd) s (PostF U H0 ow0 Hk owk W D) fun _ _ => False, ⟨w0 σd, ow, σd, s, S, kk, w⟩, ?_⟩
  rintro m σ H ⟨ow, σd, s, S, kk, w⟩
  cases m with
  | zero => exact w.of_fail.elim
  | succ m =>
    refine ⟨H0, ow0, ow, σd, s, S, (Wp.of_stE w).mono (fun t s' q H' e' c => ?_) (fun x s' q => rzX S q)⟩
    cases t with
    | false => exact (show Wp (pure (Flow.nx σd)) s' _ _ from q).of_pure _ _ _ (S.ext e' c) (kk.trans e'.keep)
    | true =>
      rw [if_pos rfl] at q ⊢
      refine ⟨_, fun σ' H' z => ⟨m, Nat.lt_succ_self m, z⟩, H0, ow0, Hk, owk, ow, σd, s', S.ext e' c, kk.trans e'.keep, q.of_bind.mono (fun fl s2 q2 => ?_) fun _ _ z => z⟩
      cases fl with
      | nx σ' => exact fun ow σ H S k => ⟨ow, σ', s2, S, k, q2⟩
      | ct σ' => exact fun ow σ H S k => ⟨ow, σ', s2, S, k, q2⟩
      | brk σ' => exact fun ow σ H S k => q2.of_pure ow σ H S k
      | ret d o => exact fun ow σ H σd v S k1 k2 => q2.of_pure ow σ H σd v S k1 k2
      | rz x σ' => exact fun ow σ H cls od S r => q2.of_pure ow σ H cls od S r
theorem ps_for1 (g : GoodS U k Γ X W) (go : GlOk U k G) {ex : St → List Stmt → M Flow} (hx : SndSs U k Γ ex) {tg it : Expr} {body : List Stmt} {pos : Pos} (he : ∀ e, PE X e (tOf U W (fun σ => ev Γ σ e) fun _ => false)) :
    PS X (.For tg it body [] pos) (tOfS U W (fun σ => stFor G ev ex Γ σ tg it body)) := by
  have hq : ∀ e, PE X e (tOfQ U W (Rp U) (fun σ => ev Γ σ e)) := fun e => PE.imp (he e) fun σ H Q ⟨H0, ow0, ow, σd, s, S, w⟩ => ⟨H0, ow0, ow, σd, s, S, w.mono (fun d s' q v H' e c r _ => q v H' e c r) fun _ _ h => h⟩
  have pi := pi_iterE (tg := tg) (it := it) g.toGood go (srcK U) (f := fun σ => ev Γ σ) hq
  rcases pi.2 with hsf | hsf
  case inr =>
    exact PS.fails fun σ => by
      unfold stFor
      dsimp only
      rw [hsf]; rfl
  refine PS.imp (ps_for g.hp g.calm pi.1 (pg_I g.toGood tg) (hx X W g body) hsf) fun D σ H h => ?_
  obtain ⟨H0, ow0, Hk, owk, ow, σd, s, S, kk, w⟩ := h
  have w : Wp (stFor G ev ex Γ σd tg it body) s _ _ := w
  unfold stFor at w
  dsimp only at w
  obtain ⟨ow1, S1, k1⟩ := S.frz (esc G Γ.sc 40 it) (Γ := Γ)
  obtain ⟨ow2, S2, k2⟩ := S1.frz (iterNames it) (Γ := Γ)
  refine ⟨H0, ow0, ow2, _, s, S2, (Wp.of_stE w).mono (fun items s' q J H1 e1 c1 ito => ?_) (fun x s' q => rzX S2 q)⟩
  have kk1 := kk.trans (k1.trans (k2.trans e1.keep))
  refine ⟨fun i m σ H => m = items.length - i ∧ i ≤ items.length ∧ ∃ ow' σd' si, SR U H0 ow0 ow' σ H σd' si ∧ Keep U ow2 ow' H1 H ∧ Wp (forL (fun σ d => bindT Γ σ tg d) (fun σ => ex σ body) (items.drop i) σd') si (PostF U H0 ow0 Hk owk W D) fun _ _ => False,
    ⟨items.length, by simp, Nat.zero_le _, ow2, _, s', S2.ext e1 c1, Keep.refl, by rw [List.drop_zero]; exact q⟩, ?_⟩
  rintro i m σ H ⟨rfl, hi, ow', σd', si, S', k', w'⟩
  obtain ⟨hgo, hstop⟩ := ito ow' H si k' S'.hk
  by_cases hlt : i < items.length
  · have hxi : items[i]? = some items[i] := List.getElem?_eq_getElem hlt
    obtain ⟨go', hy⟩ := hgo i _ hxi
    have hdr : items.drop i = items[i] :: items.drop (i + 1) := List.drop_eq_getElem_cons hlt
    rw [hdr] at w'
    unfold forL at w'
    cases hb : bindT Γ σd' tg items[i] with
    | none => rw [hb] at w'; exact w'.of_fail.elim
    | some σ2d =>
      rw [hb] at w'
      refine .inr ⟨go', _, fun σ' H' z => ⟨items.length - (i + 1), by omega, rfl, hlt, z⟩, fun x H3 yl => ?_⟩
      obtain ⟨e3, c3, rx⟩ := hy x H3 yl
      have S3 := S'.ext e3 c3
      refine ⟨H0, ow0, ow', _, si, items[i], σ2d, S3, rx, bindT_to hb, fun σ2 S4 _ => ?_⟩
      refine ⟨H0, ow0, H1, ow2, ow', σ2d, si, S4, k'.trans e3.keep, w'.of_bind.mono (fun fl s2 q2 => ?_) fun _ _ z => z⟩
      cases fl with
      | nx σ' => exact fun ow σ H S k => ⟨ow, σ', s2, S, k, q2⟩
      | ct σ' => exact fun ow σ H S k => ⟨ow, σ', s2, S, k, q2⟩
      | brk σ' => exact fun ow σ H S k => q2.of_pure ow σ H S (kk1.trans k)
      | ret d o => exact fun ow σ H σd v S k1 k2 => q2.of_pure ow σ H σd v S k1 k2
      | rz x σ' => exact fun ow σ H cls od S r => q2.of_pure ow σ H cls od S r
  · have hi2 : i = items.length := by omega
    subst hi2
    rw [List.drop_length] at w'
    exact .inl ⟨hstop, (show Wp (pure (Flow.nx σd')) si _ _ from w').of_pure _ _ _ S' (kk1.trans k')⟩
/-- try: .. except C [as n]: return a value -/
def scV : Py.D → Option V
  | .int i => some (.int i)
  | .str i => some (.str i)
  | .bool i => some (.bl i)
  | .none => some .non
  | _ => none
theorem scV_rp {d : Py.D} {v : V} (h : scV d = some v) : Rp U ow H d v := by
  cases d <;> first | (cases h; first | exact Rp.int | exact Rp.str | exact Rp.bool | exact Rp.none) | cases h
/-- the clause's value, where the error x is at a -/
def tHx (Γ : Cxt) (on : Option Str) (a : Addr) (x : Exc) (od : Option Addr) (v : V) : TE := fun σ H Q => ((∀ n, on = some n → ∃ i, Γ.N.idxOf? n = some i ∧ σ[i]? = some (some (.ref a))) ∧ XFl H x.flds od) ∧ Q v H
theorem XFl.dok {H : Hp} {fs : List (Str × Py.D)} {od : Option Addr} (h : XFl H fs od) : DOk H od := by
  rcases h with ⟨_, h⟩ | ⟨m, a, _, h, e⟩
  · exact .inl h
  · exact .inr ⟨a, _, h, e⟩
theorem PE.none_ {X : Cx} {e : Expr} : PE X e (fun _ _ _ => False) := ⟨fun _ _ _ _ _ _ h => h.elim⟩
theorem hexp_pe (g : GoodS U k Γ X W) (go : GlOk U k G) {on : Option Str} {x : Exc} {a : Addr} {oe : Obj} {pn : List (Addr × Obj)} {cls : Value} {od : Option Addr} (hx : U.mg x.cls = some cls) (hxe : G.exc x.cls = true) (hz : Zc cls od oe) (hf : ∃ vs, oe.data = .fields vs) (hon : onOk Γ on = true) :
    ∀ (m : Nat) (e : Expr) (d : Py.D) (v : V), hexp G Γ on x m e = some d → scV d = some v → PE (X.suite a ((a, oe) :: pn)) e (tHx Γ on a x od v)
  | 0, _, _, _, h, _ => by cases h
  | m + 1, e, d, v, h, hv => by
    unfold hexp at h
    split at h
    · rename_i h2; cases h2
    · cases h; cases hv; exact PE.imp pe_int fun σ H Q q => q.2
    · cases h; cases hv; exact PE.imp pe_str fun σ H Q q => q.2
    · cases h; cases hv; exact PE.imp pe_bl fun σ H Q q => q.2
    · cases h; cases hv; exact PE.imp pe_non fun σ H Q q => q.2
    · split at h
      · rename_i n pn0 F pF0 pC hm hc
        obtain ⟨rfl, h1, h2, ⟨h3, h4⟩, h5⟩ := hc
        cases hs : G.sub x.cls F with
        | none => rw [hs] at h; cases h
        | some b =>
          rw [hs] at h
          cases h
          cases hv
          obtain ⟨C, cv, vc, hC, EC, hF, rv, ru, hk⟩ := go.sub x.cls F b hs
          rw [hx] at hC
          cases hC
          unfold gname at h1
          simp only [Bool.and_eq_true] at h1
          obtain ⟨k1, k2, k3, k4⟩ := gname_ok g.toGood go h1.1.1 h1.1.2 h1.2
          obtain ⟨d1, d2, d3⟩ := okName_d h4
          obtain ⟨e1, e2, e3⟩ := okName_d h3
          have gF : Gl X F := kindG_gl g.toGood h5
          have pF : PE (X.suite a ((a, oe) :: pn)) (.Name F pF0) (tC vc) := by
            rcases hF with hF | ⟨hF, hb⟩
            · exact pe_glob (X := X.suite a ((a, oe) :: pn)) gF (by show X.mg F = _; rw [g.mg]; exact hF) rv d1
            · exact pe_bltn (X := X.suite a ((a, oe) :: pn)) gF (by show X.mg F = _; rw [g.mg]; exact hF) hb rv d3 d1
          subst h2
          unfold onOk at hon
          rw [Bool.and_eq_true] at hon
          obtain ⟨i, hi⟩ := Option.isSome_iff_exists.mp hon.2
          have pn' := pe_var (X := X.suite a ((a, oe) :: pn)) (i := i) (x := n) (pos := pn0) (by show X.N[i]? = _; rw [g.N]; exact idxOf_get hi) (by show Vis X.env.scope n; rw [g.sc]; exact .inl (isLocal_ok hon.1)) e1 e2
          have EC' : ExcC X.K C := by rw [g.K]; exact EC
          refine PE.imp (pe_callB (X := X.suite a ((a, oe) :: pn)) (call_isX EC' hz hf) k1 k2 bare_isi (pa_cons pn' (pa_cons pF pa_nil))) fun σ H Q q => ?_
          obtain ⟨i', hi', hσ⟩ := q.1.1 n rfl
          rw [hi] at hi'; cases hi'
          exact ⟨_, hσ, vc, cv, b, rfl, ru, by show PySem.W.kitOne X.K _ _ = _; rw [g.K]; exact hk, q.1.2.dok, q.2⟩
      · cases h
    · split at h
      · rename_i n pn0 f pA hm hc
        obtain ⟨rfl, h2, h3⟩ := hc
        obtain ⟨h4, h⟩ := (show G.ini x.cls = true ∧ (match x.flds with
          | [(_, .str m)] => some (PyData.str m)
          | _ => none) = some d from by
          split at h
          · rename_i h4; exact ⟨h4, h⟩
          · cases h)
        split at h
        · rename_i ky mm hfl
          cases h
          cases hv
          obtain ⟨C, hmC, hk, _⟩ := go.exc x.cls hxe
          rw [hx] at hmC
          cases hmC
          rcases hk with ⟨hi0, _⟩ | ⟨_, fI, T⟩
          · rw [hi0] at h4; cases h4
          · obtain ⟨e1, e2, e3⟩ := okName_d h3
            subst h2
            unfold onOk at hon
            rw [Bool.and_eq_true] at hon
            obtain ⟨i, hi⟩ := Option.isSome_iff_exists.mp hon.2
            have pn' := pe_var (X := X.suite a ((a, oe) :: pn)) (i := i) (x := n) (pos := pn0) (by show X.N[i]? = _; rw [g.N]; exact idxOf_get hi) (by show Vis X.env.scope n; rw [g.sc]; exact .inl (isLocal_ok hon.1)) e1 e2
            refine PE.imp (pe_byRef (X := X) (prog := U.P) (fI := fI) (by rw [g.K]; exact T) hz hf pn' rfl) fun σ H Q q => ?_
            obtain ⟨i', hi', hσ⟩ := q.1.1 n rfl
            rw [hi] at hi'; cases hi'
            rcases q.1.2 with ⟨z, _⟩ | ⟨m', a', z, z2, z3⟩
            · rw [hfl] at z; cases z
            · rw [hfl] at z
              cases z
              exact ⟨_, hσ, rfl, rfl, a', .str mm, z2, z3, q.2⟩
        · cases h
      · cases h
    · rename_i m' a1 b1 pp hm
      obtain rfl : m' = m := by omega
      split at h
      · rename_i p q hp hq
        cases h
        cases hv
        have pa := hexp_pe (a := a) (pn := pn) g go hx hxe hz hf hon m' a1 (.bool p) (.bl p) hp rfl
        have pb := hexp_pe (a := a) (pn := pn) g go hx hxe hz hf hon m' b1 (.bool q) (.bl q) hq rfl
        refine PE.imp (pe_and pa (pe_one pb)) fun σ H Q z => ?_
        refine ⟨z.1, p, rfl, ?_⟩
        cases p with
        | true => exact ⟨z.1, z.2⟩
        | false => exact z.2
      · cases h
    · rename_i m' a1 b1 pp hm
      obtain rfl : m' = m := by omega
      split at h
      · rename_i p q hp hq
        split at h
        · rename_i hl
          cases h
          cases hv
          have pa := hexp_pe (a := a) (pn := pn) g go hx hxe hz hf hon m' a1 (.str p) (.str p) hp rfl
          have pb := hexp_pe (a := a) (pn := pn) g go hx hxe hz hf hon m' b1 (.str q) (.str q) hq rfl
          exact PE.imp (pe_op op_add_str pa pb) fun σ H Q z => ⟨z.1, z.1, _, _, rfl, rfl, by rw [← sline_eq]; exact hl, z.2⟩
        · cases h
      · cases h
    · rename_i m' f as ks p a1 b1 pp hm
      obtain rfl : m' = m := by omega
      split at h
      · rename_i t ht
        have pc := hexp_pe (a := a) (pn := pn) g go hx hxe hz hf hon m' _ (.bool t) (.bl t) ht rfl
        cases t with
        | true =>
          rw [if_pos rfl] at h
          have pa := hexp_pe (a := a) (pn := pn) g go hx hxe hz hf hon m' a1 d v h hv
          exact PE.imp (pe_ifExp (pt_val pc) pa PE.none_) fun σ H Q z => ⟨z.1, true, rfl, z.1, z.2⟩
        | false =>
          rw [if_neg Bool.false_ne_true] at h
          have pb := hexp_pe (a := a) (pn := pn) g go hx hxe hz hf hon m' b1 d v h hv
          exact PE.imp (pe_ifExp (pt_val pc) PE.none_ pb) fun σ H Q z => ⟨z.1, false, rfl, z.1, z.2⟩
      · cases h
    · cases h
theorem hexp_sc : ∀ (m : Nat) {on : Option Str} {x : Exc} (e : Expr) (d : Py.D), hexp G Γ on x m e = some d → ∃ v, scV d = some v
  | 0, _, _, e, d, h => by cases h
  | m + 1, on, x, e, d, h => by
    unfold hexp at h
    split at h
    · rename_i h2; cases h2
    · cases h; exact ⟨_, rfl⟩
    · cases h; exact ⟨_, rfl⟩
    · cases h; exact ⟨_, rfl⟩
    · cases h; exact ⟨_, rfl⟩
    · split at h
      · cases hs : G.sub x.cls _ with
        | none => rw [hs] at h; cases h
        | some b => rw [hs] at h; cases h; exact ⟨_, rfl⟩
      · cases h
    · split at h
      · split at h
        · split at h
          · cases h; exact ⟨_, rfl⟩
          · cases h
        · cases h
      · cases h
    · split at h
      · cases h; exact ⟨_, rfl⟩
      · cases h
    · split at h
      · split at h
        · cases h; exact ⟨_, rfl⟩
        · cases h
      · cases h
    · rename_i m' _ _ _ _ _ _ _ hm
      obtain rfl : m' = m := by omega
      split at h
      · split at h
        · exact hexp_sc m' _ _ h
        · exact hexp_sc m' _ _ h
      · cases h
    · cases h
/-- data without a heap -/
def scVs : List Py.D → List V → Prop
  | [], vs => vs = []
  | d :: ds, vs => ∃ v r, vs = v :: r ∧ scV d = some v ∧ scVs ds r
theorem scVs_rp {ow : Ow} {H : Hp} : ∀ {ds : List Py.D} {vs : List V}, scVs ds vs → RpL U ow H ds vs
  | [], _, h => h
  | _ :: _, _, ⟨v, r, h1, h2, h3⟩ => ⟨v, r, h1, scV_rp h2, scVs_rp h3⟩
theorem scVs_len : ∀ {ds : List Py.D} {vs : List V}, scVs ds vs → vs.length = ds.length
  | [], _, h => by cases h; rfl
  | _ :: _, _, ⟨v, r, h1, h2, h3⟩ => by subst h1; exact congrArg Nat.succ (scVs_len h3)
def tHxA (Γ : Cxt) (on : Option Str) (a : Addr) (x : Exc) (od : Option Addr) (vs : List V) : TA := fun σ H Q => ((∀ n, on = some n → ∃ i, Γ.N.idxOf? n = some i ∧ σ[i]? = some (some (.ref a))) ∧ XFl H x.flds od) ∧ Q vs H
theorem hexpL_pa (g : GoodS U k Γ X W) (go : GlOk U k G) {on : Option Str} {x : Exc} {a : Addr} {oe : Obj} {pn : List (Addr × Obj)} {cls : Value} {od : Option Addr} (hx : U.mg x.cls = some cls) (hxe : G.exc x.cls = true) (hz : Zc cls od oe) (hf : ∃ vs, oe.data = .fields vs) (hon : onOk Γ on = true) :
    ∀ (es : List Expr) (ds : List Py.D), hexpL G Γ on x es = some ds → ds.length = es.length ∧ ∃ vs, scVs ds vs ∧ PA (X.suite a ((a, oe) :: pn)) es (tHxA Γ on a x od vs)
  | [], ds, h => by
    cases h
    exact ⟨rfl, [], rfl, PA.imp pa_nil fun σ H Q q => q.2⟩
  | e :: es, ds, h => by
    unfold hexpL at h
    split at h
    · rename_i hns
      split at h
      · rename_i d ds' hd hds
        cases h
        obtain ⟨v, hv⟩ := hexp_sc 5 e d hd
        obtain ⟨hl, vs, hvs, pa⟩ := hexpL_pa g go hx hxe hz hf hon es ds' hds
        exact ⟨congrArg Nat.succ hl, v :: vs, ⟨v, vs, rfl, hv, hvs⟩, PA.imp (pa_cons (hexp_pe g go hx hxe hz hf hon 5 e d v hd hv) pa (starEach_ns hns)) fun σ H Q q => ⟨q.1, q.1, q.2⟩⟩
      · cases h
    · cases h
/-- what a clause's return asks -/
def tsH (U : Wd) (Γ : Cxt) (G : Gs) (on : Option Str) (e : Expr) (a : Addr) (cls : Value) (od : Option Addr) : TS := fun D σ H => ∃ x d, U.mg x.cls = some cls ∧ G.exc x.cls = true ∧ XFl H x.flds od ∧ hret G Γ on x e = some d ∧
  (∀ n, on = some n → ∃ i, Γ.N.idxOf? n = some i ∧ σ[i]? = some (some (.ref a))) ∧ (∀ v, scV d = some v → D.rt v H) ∧ ∀ ds vs p, d = .list ds → scVs ds vs → H p = none → D.rt (.ref p) (upd H p (.lst vs))
theorem tsH_ok (g : GoodS U k Γ X W) (go : GlOk U k G) {on : Option Str} (hon : onOk Γ on = true) {e : Expr} {p : Pos} {a : Addr} {oe : Obj} {cls : Value} {od : Option Addr} {pn : List (Addr × Obj)} (hz : Zc cls od oe) (hf : ∃ vs, oe.data = .fields vs) :
    PSs (X.suite a ((a, oe) :: pn)) [.Return (some e) p] (tsH U Γ G on e a cls od) := ⟨fun pins s σ H D I h => by
  obtain ⟨x, d, hx, hxe, hfl, he, hsl, q1, q2⟩ := h
  unfold hret at he
  split at he
  · rename_i es pl
    obtain ⟨hlen, he⟩ := (show es.length ≤ 5 ∧ (hexpL G Γ on x es).map .list = some d from by
      split at he
      · rename_i h5; exact ⟨h5, he⟩
      · cases he)
    cases hds : hexpL G Γ on x es with
    | none => rw [hds] at he; cases he
    | some ds =>
      rw [hds] at he
      cases he
      obtain ⟨hl, vs, hvs, pa⟩ := hexpL_pa (a := a) (pn := pn) g go hx hxe hz hf hon es ds hds
      refine (pss_one (ps_ret (pe_lst pa))).run pins s σ H D I ⟨⟨hsl, hfl⟩, ?_, fun p np => q2 ds vs p rfl hvs np⟩
      rw [scVs_len hvs, hl, ← sline_eq]
      exact Nat.le_trans hlen (by decide)
  · obtain ⟨v, hv⟩ := hexp_sc 5 e d he
    exact (pss_one (ps_ret (hexp_pe g go hx hxe hz hf hon 5 e d v he hv))).run pins s σ H D I ⟨⟨hsl, hfl⟩, q1 v hv⟩⟩
/-- the clauses, one by one -/
inductive ClRel (U : Wd) (Γ : Cxt) (G : Gs) : List Clause → List Cl → Prop
  | nil : ClRel U Γ G [] []
  | cons {c : Str} {on : Option Str} {e : Expr} {C : Addr} {i : Option Nat} {l : List Clause} {L : List Cl} (hm : U.mg c = some (.ref C)) (hc : G.exc c = true)
      (hi : match on, i with | none, none => True | some n, some i => Γ.N.idxOf? n = some i | _, _ => False) (r : ClRel U Γ G l L) : ClRel U Γ G ((c, on, e) :: l) ((.ref C, i, tsH U Γ G on e) :: L)
theorem mix_ok (g : GoodS U k Γ X W) (go : GlOk U k G) : ∀ (hs : List ExceptHandler) (l : List Clause), tryOf hs = some l → l.all (clOk G Γ) = true → ∃ L, HdMix X hs L ∧ ClRel U Γ G l L
  | [], l, h, _ => by cases h; exact ⟨[], .nil, .nil⟩
  | hd :: hs, l, h, ha => by
    unfold tryOf at h
    split at h
    · rename_i e; cases e
    · rename_i c p1 on e p3 p4 r he
      cases he
      cases hr : tryOf hs with
      | none => rw [hr] at h; cases h
      | some l' =>
        rw [hr] at h
        cases h
        rw [List.all_cons, Bool.and_eq_true] at ha
        obtain ⟨L, hL, rL⟩ := mix_ok g go hs l' hr ha.2
        have hc := ha.1
        unfold clOk at hc
        simp only [Bool.and_eq_true] at hc
        obtain ⟨⟨⟨c1, c2⟩, c3⟩, c4⟩ := hc
        obtain ⟨C, hm, _, _⟩ := go.exc c c3
        obtain ⟨hd, _, _⟩ := okName_d c1
        have nm : Names X c (.ref C) := ⟨kindG_gl g.toGood c2, hd, .inl (by rw [g.mg]; exact hm)⟩
        cases on with
        | none => exact ⟨_, .cons (i := none) nm trivial (fun a oe cls d pn hz hf => tsH_ok g go c4 hz hf) hL, .cons hm c3 trivial rL⟩
        | some n =>
          have c4' := c4
          unfold onOk at c4'
          rw [Bool.and_eq_true] at c4'
          obtain ⟨i, hi⟩ := Option.isSome_iff_exists.mp c4'.2
          exact ⟨_, .cons (i := some i) nm ⟨by rw [g.N]; exact idxOf_get hi, by show X.env.scope.names.lookup n = _; rw [g.sc]; exact isLocal_ok c4'.1⟩ (fun a oe cls d pn hz hf => tsH_ok g go c4 hz hf) hL, .cons hm c3 hi rL⟩
    · cases h
theorem ps_try1 (g : GoodS U k Γ X W) (go : GlOk U k G) {ex : St → List Stmt → M Flow} (hx : SndSs U k Γ ex) {body : List Stmt} {hs : List ExceptHandler} {l : List Clause} {pos : Pos} (ht : tryOf hs = some l) :
    PS X (.Try body hs [] [] pos) (tOfS U W (fun σ => stTry G ex Γ σ body l)) := by
  by_cases hc : l.all (clOk G Γ) = true ∧ l ≠ []
  case neg => exact PS.fails fun σ => by unfold stTry; rw [if_neg hc]
  obtain ⟨L, hL, rL⟩ := mix_ok g go hs l ht hc.1
  have hbody : ∀ (W : WX) (pn : List (Addr × Obj)) (xe : Value → Shared → Prop), Takes (X.tr pn xe) W → PassesOwn (model X.prog X.w) X.A X.env xe → PSs (X.tr pn xe) body (tOfS U W (fun σ => ex σ body)) := fun W' pn xe tk' hp' =>
    hx (X.tr pn xe) W' ⟨⟨g.P, g.w, g.K, g.mg, g.base, g.N, g.sc, g.nd, g.calm, g.room, tk', g.stl, g.stc⟩, g.st, hp', g.stack, g.frame, g.fk⟩ body
  cases hs with
  | nil => cases ht; exact absurd rfl hc.2
  | cons h0 hs =>
    refine PS.imp (ps_try_mix (tb := fun W' => tOfS U W' (fun σ => ex σ body)) (Wout := W) g.stack g.frame (by rw [g.N]; exact g.nd) g.tk hbody hL) fun D σ H h => ?_
    obtain ⟨H0, ow0, Hk, owk, ow, σd, s, S, kk, w⟩ := h
    have w : Wp (stTry G ex Γ σd body l) s _ _ := w
    unfold stTry at w
    rw [if_pos hc] at w
    refine ⟨H0, ow0, Hk, owk, ow, σd, s, S, kk, (Wp.of_bind (m := ex σd body) (k := catchF G Γ l) w).mono (fun fl s2 q2 => ?_) fun _ _ z => z⟩
    cases fl with
    | nx σ' => exact fun ow σ H S k => q2.of_pure ow σ H S k
    | ct σ' => exact fun ow σ H S k => q2.of_pure ow σ H S k
    | brk σ' => exact fun ow σ H S k => q2.of_pure ow σ H S k
    | ret d o => exact fun ow σ H σd v S k1 k2 => q2.of_pure ow σ H σd v S k1 k2
    | rz x σ' =>
      intro ow2 σ2 H2 cls od S2 r
      obtain ⟨⟨hxe, hin⟩, q2⟩ := Wp.of_guard q2
      obtain ⟨r1, r2⟩ := r
      have go' : ∀ {l' : List Clause} {L' : List Cl}, ClRel U Γ G l' L' → (l'.all fun p => onIn Γ p.2.1 σ'.length) = true → Wp (clauses G Γ x σ' l') s2 (PostF U H0 ow0 Hk owk W D) (fun _ _ => False) → wMix X.K W D L' cls od σ2 H2 := by
        intro l' L' rl
        induction rl with
        | nil => exact fun _ q => q.of_pure _ _ _ _ _ S2 ⟨r1, r2⟩
        | @cons c on e C i l1 L1 hm hc hi rr ih =>
          intro hin q
          rw [List.all_cons, Bool.and_eq_true] at hin
          obtain ⟨C', hm', _, hex⟩ := go.exc c hc
          rw [hm] at hm'
          cases hm'
          have q : Wp (if x.cls = c then (match hret G Γ on x e with
            | some d => pure (.ret d false)
            | none => fail) else clauses G Γ x σ' l1) s2 _ _ := q
          refine ⟨decide (x.cls = c), by rw [g.K]; exact hex x.cls hxe _ r1, fun z a na => ?_, fun z => ?_⟩
          · rw [if_pos (of_decide_eq_true z)] at q
            cases hv : hret G Γ on x e with
            | none => rw [hv] at q; exact q.of_fail.elim
            | some d =>
              rw [hv] at q
              have rt : ∀ {D' : Ends}, (∀ v H', D.rt v H' → D'.rt v H') → (∀ v, scV d = some v → D'.rt v H2) ∧ ∀ ds vs p, d = .list ds → scVs ds vs → H2 p = none → D'.rt (.ref p) (upd H2 p (.lst vs)) := fun hD =>
                ⟨fun v hsv => hD _ _ (q.of_pure _ _ _ _ _ S2 (fun _ => scV_rp hsv) fun z => nomatch z), fun ds vs p hd hvs np => hD _ _ (by
                  subst hd
                  exact q.of_pure _ _ _ _ _ (S2.ext (Ext.new np) (S2.cap.new np)) (fun _ => Rp.newL (scVs_rp hvs) np (S2.nocap np) (S2.noow np)) fun z => nomatch z)⟩
              cases on with
              | none =>
                cases i with
                | some i => exact hi.elim
                | none => exact ⟨x, d, r1, hxe, r2, hv, fun n z => (nomatch z), rt (D' := D) fun _ _ z => z⟩
              | some n =>
                cases i with
                | none => exact hi.elim
                | some i =>
                  refine ⟨x, d, r1, hxe, r2, hv, fun n' z => ?_, rt (D' := dMix (some i) D) fun _ _ z => z⟩
                  cases z
                  have hi : Γ.N.idxOf? n = some i := hi
                  have hl : i < σ2.length := by
                    have h1 := hin.1
                    unfold onIn at h1
                    dsimp only at h1
                    rw [hi] at h1
                    rw [← S2.len]
                    exact of_decide_eq_true h1
                  exact ⟨i, hi, List.getElem?_set_self hl⟩
          · rw [if_neg (of_decide_eq_false z)] at q
            exact ih hin.2 q
      exact go' rL hin q2
end
end Py

set_option Elab.async false
set_option linter.all false
set_option maxRecDepth 100000
set_option maxHeartbeats 1000000
namespace Py
open PySem PySem.Spec PyProof.Rows L2
section
variable {U : Wd} {k : Nat} {Γ : Cxt} {X : Cx} {W : WX} {G : Gs} {ow ow0 : Ow} {H H0 H1 : Hp} {s s1 : DS} {σ : L2.St} {σd : St} {D : Ends}
theorem evE_slice {n : Nat} {lo hi st : Option Expr} {p : Pos} {σ : St} : evE G n Γ σ (.Slice lo hi st p) = fail := by cases n <;> rfl
theorem snd_asg (g : GoodS U k Γ X W) (go : GlOk U k G) (gf : FnsOk U k G) {n w : Nat} {ex : St → List Stmt → M Flow} (ts : List Expr) (e : Expr) (pos : Pos) :
    PS X (.Assign ts e pos) (tOfS U W (fun σ => exec1 G (evE G n) w ex Γ σ (.Assign ts e pos))) := by
  have hA := fun e => snd_E go gf n Γ X W g.toGood e
  have hE : ∀ e, PE X e (tOf U W (fun σ => evE G n Γ σ e) fun _ => false) := fun e => PE.weak ((hA e).1 0) (fun d z => by cases z)
  match ts with
  | [] => exact PS.fails fun _ => rfl
  | t :: t2 :: tr =>
    cases t with
    | Subscript o i q => exact PS.fails fun σ => by cases o <;> rfl
    | _ => exact PS.fails fun _ => rfl
  | [t] =>
    cases t with
    | Name x p =>
      have gen : (∀ σ, exec1 G (evE G n) w ex Γ σ (.Assign [.Name x p] e pos) = stAsg G (evE G n) Γ σ x e) → PS X (.Assign [.Name x p] e pos) (tOfS U W (fun σ => exec1 G (evE G n) w ex Γ σ (.Assign [.Name x p] e pos))) := fun h => PS.to h (ps_asgA g go gf)
      cases e with
      | Call fe args kws r =>
        cases fe with
        | Attribute o m q =>
          cases o with
          | Name l p2 =>
            cases kws with
            | nil =>
              by_cases hm : m = ("pop" : Str)
              · subst hm
                exact PS.to (fun σ => rfl) (ps_pop1 g hE)
              · exact gen fun σ => if_neg hm
            | cons _ _ => exact gen fun _ => rfl
          | _ => exact gen fun _ => rfl
        | _ => exact gen fun _ => rfl
      | _ => exact gen fun _ => rfl
    | Tuple es kt p =>
      cases e with
      | Tuple vs k2 p2 =>
        by_cases hoff : offPar Γ es vs = true
        · exact PS.to (fun σ => by show (if _ then _ else _) = _; rw [if_pos hoff]) (ps_tup1 (G := G) (ev := evE G n) g (hE _) rfl (sw_off g hoff) rfl)
        · exact PS.to (fun σ => by show (if _ then _ else _) = _; rw [if_neg hoff]) (ps_par1 g fun e => (snd_E go gf n Γ X W g.toGood e).1 40)
      | _ => exact PS.to (fun _ => rfl) (ps_tup1 (G := G) (ev := evE G n) g (hE _) rfl rfl rfl)
    | Subscript o i p =>
      cases o with
      | Name l p2 =>
        cases i with
        | Slice lo hi st p3 =>
          refine PS.fails fun σ => ?_
          show stSub _ _ _ _ _ _ _ = fail
          unfold stSub
          dsimp only
          rw [if_neg (fun z => by cases z.2)]
        | _ => exact PS.to (fun _ => rfl) (ps_sub1 (G := G) (ev := evE G n) g (hE e) (hE _) (by cases e <;> rfl) (by cases e <;> rfl) rfl fun _ => rfl)
      | _ => exact PS.fails fun _ => rfl
    | _ => exact PS.fails fun _ => rfl
theorem stMet_app {ev : Cxt → St → Expr → M Py.D} {σ : St} {l : Str} {q r : Pos} {args : List Expr} : stMet G ev Γ σ l "append" q r args = (match args with
                | [e] => stApp G ev Γ σ l q r e
                | _ => fail) := by
  unfold stMet
  exact if_pos rfl
theorem stMet_pop {ev : Cxt → St → Expr → M Py.D} {σ : St} {l : Str} {q r : Pos} {args : List Expr} : stMet G ev Γ σ l "pop" q r args = (match args with
                | [] => stPop0 Γ σ l q r
                | _ => fail) := by
  unfold stMet
  exact (if_neg (by decide)).trans (if_pos rfl)
theorem stMet_ext {ev : Cxt → St → Expr → M Py.D} {σ : St} {l : Str} {q r : Pos} {args : List Expr} : stMet G ev Γ σ l "extend" q r args = (match args with
                | [e] => stExt G ev Γ σ l q r e
                | _ => fail) := by
  unfold stMet
  exact (if_neg (by decide)).trans ((if_neg (by decide)).trans (if_pos rfl))
theorem stMet_no {ev : Cxt → St → Expr → M Py.D} {σ : St} {l m : Str} {q r : Pos} {args : List Expr} (h1 : ¬ m = ("append" : Str)) (h2 : ¬ m = ("pop" : Str)) (h3 : ¬ m = ("extend" : Str)) : stMet G ev Γ σ l m q r args = fail := by
  unfold stMet
  exact (if_neg h1).trans ((if_neg h2).trans (if_neg h3))
theorem raiseOf_ok {e : Expr} {c : Str × Str} (h : raiseOf e = some c) : ∃ p1 j p2 p3, e = .Call (.Name c.1 p1) [.Constant (.str c.2) j p2] [] p3 := by
  unfold raiseOf at h
  split at h
  · cases h; exact ⟨_, _, _, _, rfl⟩
  · cases h
theorem snd_1 (g : GoodS U k Γ X W) (go : GlOk U k G) (gf : FnsOk U k G) {n w : Nat} {ex : St → List Stmt → M Flow} (hx : SndSs U k Γ ex) (st : Stmt) :
    PS X st (tOfS U W (fun σ => exec1 G (evE G n) w ex Γ σ st)) := by
  have hA := fun e => snd_E go gf n Γ X W g.toGood e
  have hE : ∀ e, PE X e (tOf U W (fun σ => evE G n Γ σ e) fun _ => false) := fun e => PE.weak ((hA e).1 0) (fun d z => by cases z)
  cases st with
  | Pass p => exact PS.imp ps_pass fun D σ H ⟨H0, ow0, Hk, owk, ow, σd, s, S, kk, w⟩ => (show Wp (pure (Flow.nx σd)) s _ _ from w).of_pure _ _ _ S kk
  | Break p => exact PS.imp ps_break fun D σ H ⟨H0, ow0, Hk, owk, ow, σd, s, S, kk, w⟩ => (show Wp (pure (Flow.brk σd)) s _ _ from w).of_pure _ _ _ S kk
  | Continue p => exact PS.imp ps_continue fun D σ H ⟨H0, ow0, Hk, owk, ow, σd, s, S, kk, w⟩ => (show Wp (pure (Flow.ct σd)) s _ _ from w).of_pure _ _ _ S kk
  | Return o p =>
    cases o with
    | none => exact PS.imp ps_retN fun D σ H ⟨H0, ow0, Hk, owk, ow, σd, s, S, kk, w⟩ => (show Wp (pure (Flow.ret .none false)) s _ _ from w).of_pure _ _ _ _ _ S (fun _ => Rp.none) fun z => nomatch z
    | some e =>
      cases e with
      | Name x p2 => exact PS.to (fun _ => rfl) (ps_retN1 g (hE _))
      | _ => exact PS.to (fun _ => rfl) (ps_ret1 (G := G) (ev := evE G n) g ((hA _).1 40))
  | If c a b p => exact PS.to (fun _ => rfl) (ps_if1 g hx (hA c).2)
  | While c body orelse p =>
    cases orelse with
    | nil => exact PS.to (fun _ => rfl) (ps_while1 (w0 := fun σ => w + msr σ) g hx (hA c).2)
    | cons _ _ => exact PS.fails fun _ => rfl
  | For tg it body orelse p =>
    cases orelse with
    | nil => exact PS.to (fun _ => rfl) (ps_for1 g go hx hE)
    | cons _ _ => exact PS.fails fun _ => rfl
  | Assign ts e p => exact snd_asg g go gf ts e p
  | AugAssign t op e p =>
    cases t with
    | Name x p2 => exact PS.to (fun _ => rfl) (ps_aug1 g (hE e))
    | Subscript o i q =>
      cases o with
      | Name l p2 =>
        cases i with
        | Slice lo hi st p3 =>
          refine PS.fails fun σ => ?_
          show stAugS _ _ _ _ _ _ _ = fail
          unfold stAugS
          rw [if_neg (fun z => by cases z.2)]
        | _ => exact PS.to (fun _ => rfl) (ps_augS2 g (hE e) (hE _) (by intros; rfl))
      | _ => exact PS.fails fun _ => rfl
    | _ => exact PS.fails fun _ => rfl
  | Expr e p =>
    have gen : (∀ σ, exec1 G (evE G n) w ex Γ σ (.Expr e p) = stExp G (evE G n) Γ σ e) → PS X (.Expr e p) (tOfS U W (fun σ => exec1 G (evE G n) w ex Γ σ (.Expr e p))) := fun h => PS.to h (ps_exp1 g (hE e))
    cases e with
    | Call fe args kws r =>
      cases fe with
      | Attribute o m q =>
        cases o with
        | Name l p2 =>
          cases kws with
          | nil =>
            clear gen
            have h1 : ∀ args σ, exec1 G (evE G n) w ex Γ σ (.Expr (.Call (.Attribute (.Name l p2) m q) args [] r) p) = stMet G (evE G n) Γ σ l m q r args := fun _ _ => rfl
            by_cases hm : m = ("append" : Str)
            · subst hm
              match args with
              | [e] => exact PS.to (fun σ => (h1 _ σ).trans stMet_app) (ps_app1 g (hE e))
              | [] => exact PS.fails fun σ => (h1 _ σ).trans stMet_app
              | _ :: _ :: _ => exact PS.fails fun σ => (h1 _ σ).trans stMet_app
            · by_cases hm2 : m = ("pop" : Str)
              · subst hm2
                match args with
                | [] => exact PS.to (fun σ => (h1 _ σ).trans stMet_pop) (ps_pop0 g)
                | _ :: _ => exact PS.fails fun σ => (h1 _ σ).trans stMet_pop
              · by_cases hm3 : m = ("extend" : Str)
                · subst hm3
                  match args with
                  | [e] => exact PS.to (fun σ => (h1 _ σ).trans stMet_ext) (ps_ext1 g (hE e))
                  | [] => exact PS.fails fun σ => (h1 _ σ).trans stMet_ext
                  | _ :: _ :: _ => exact PS.fails fun σ => (h1 _ σ).trans stMet_ext
                · exact PS.fails fun σ => (h1 _ σ).trans (stMet_no hm hm2 hm3)
          | cons _ _ => exact gen fun _ => rfl
        | _ => exact gen fun _ => rfl
      | _ => exact gen fun _ => rfl
    | _ => exact gen fun _ => rfl
  | Raise o c p =>
    cases o with
    | none => exact PS.fails fun _ => rfl
    | some e =>
      cases c with
      | some c => exact PS.fails fun σ => rfl
      | none =>
        have h1 : ∀ σ, exec1 G (evE G n) w ex Γ σ (.Raise (some e) none p) = (match raiseOf e with
          | some (c, m) => stRaise G Γ σ c m
          | none => fail) := fun _ => rfl
        cases hr : raiseOf e with
        | none => exact PS.fails fun σ => by rw [h1, hr]
        | some c =>
          obtain ⟨p1, j, p2, p3, rfl⟩ := raiseOf_ok hr
          exact PS.to (fun σ => by rw [h1, hr]) (ps_raise1 g go)
  | Try body hs orelse fin p =>
    cases orelse with
    | cons _ _ => exact PS.fails fun _ => rfl
    | nil =>
      cases fin with
      | cons _ _ => exact PS.fails fun _ => rfl
      | nil =>
        have h1 : ∀ σ, exec1 G (evE G n) w ex Γ σ (.Try body hs [] [] p) = (match tryOf hs with
          | some l => stTry G ex Γ σ body l
          | none => fail) := fun _ => rfl
        cases hr : tryOf hs with
        | none => exact PS.fails fun σ => by rw [h1, hr]
        | some cv =>
          exact PS.to (fun σ => by rw [h1, hr]) (ps_try1 g go hx hr)
  | _ => exact PS.fails fun _ => rfl
/-- suites -/
theorem snd_x (go : GlOk U k G) (gf : FnsOk U k G) {n w : Nat} : ∀ m, SndSs U k Γ (exec G (evE G n) w Γ m)
  | 0 => fun X W g sts => ⟨fun pins s' σ H D I h => by
    obtain ⟨H0, ow0, Hk, owk, ow, σd, s, S, kk, w⟩ := h
    exact (show Wp fail s _ _ from w).of_fail.elim⟩
  | m + 1 => fun X W g sts => by
    cases sts with
    | nil => exact PSs.imp pss_nil fun D σ H ⟨H0, ow0, Hk, owk, ow, σd, s, S, kk, w⟩ => (show Wp (pure (Flow.nx σd)) s _ _ from w).of_pure _ _ _ S kk
    | cons st rest =>
      refine PSs.imp (pss_cons (snd_1 (n := n) (w := w) g go gf (snd_x (n := n) (w := w) go gf m) st) (snd_x (n := n) (w := w) go gf m X W g rest)) fun D σ H ⟨H0, ow0, Hk, owk, ow, σd, s, S, kk, w'⟩ => ?_
      have w' : Wp (thenF (exec1 G (evE G n) w (exec G (evE G n) w Γ m) Γ σd st) fun σ' => exec G (evE G n) w Γ m σ' rest) s _ _ := w'
      unfold thenF at w'
      refine ⟨H0, ow0, Hk, owk, ow, σd, s, S, kk, w'.of_bind.mono (fun fl s2 q2 => ?_) fun _ _ z => z⟩
      cases fl with
      | nx σ' => exact fun ow σ H S k => ⟨H0, ow0, Hk, owk, ow, σ', s2, S, k, q2⟩
      | ct σ' => exact fun ow σ H S k => q2.of_pure ow σ H S k
      | brk σ' => exact fun ow σ H S k => q2.of_pure ow σ H S k
      | ret d o => exact fun ow σ H σd v S k1 k2 => q2.of_pure ow σ H σd v S k1 k2
      | rz x σ' => exact fun ow σ H cls od S r => q2.of_pure ow σ H cls od S r
end
end Py

set_option Elab.async false
set_option linter.all false
set_option maxRecDepth 100000
set_option maxHeartbeats 1000000
namespace Py
open PySem PySem.Spec PyProof.Rows L2
section
variable {U : Wd} {k : Nat} {Γ : Cxt} {X : Cx} {W : WX} {G : Gs} {ow ow0 : Ow} {H H0 H1 : Hp} {s s1 : DS} {σ : L2.St} {σd : St} {D : Ends}
/-- the caller's lists are nobody's here -/
def dem (ow : Ow) : Ow := fun a => match ow a with
  | none => none
  | some _ => some 0
theorem dem_none {a : Addr} : dem ow a = none ↔ ow a = none := by
  unfold dem
  cases ow a <;> simp
theorem dem_keep : Keep U ow (dem ow) H H := fun a u _ ho e => ⟨e, dem_none.mpr ho⟩
theorem dem_keep' : Keep U (dem ow) ow H H := fun a u _ ho e => ⟨e, dem_none.mp ho⟩
theorem start_get {N : List Str} {ds : List Py.D} {i : Nat} {d : Py.D} {o : Bool} (h : (Py.start N ds)[i]? = some (some (d, o))) : o = false ∧ ds[i]? = some d := by
  unfold Py.start at h
  by_cases hi : i < ds.length
  · rw [List.getElem?_append_left (by simpa using hi), List.getElem?_map, List.getElem?_eq_getElem hi] at h
    cases h
    exact ⟨rfl, List.getElem?_eq_getElem hi⟩
  · rw [List.getElem?_append_right (by simpa using hi), List.getElem?_replicate] at h
    split at h <;> cases h
theorem SR.start {N : List Str} {ds : List Py.D} {vs : List V} (hk : Hk U ow H s) (hc : ow U.cell = none) (r : RpL U ow H ds vs) : SR U H (dem ow) (dem ow) (L2.start N vs) H (Py.start N ds) s := by
  refine ⟨fun a h => hk.1 a fun z => h (dem_none.mpr z), dem_none.mpr hk.capo, dem_none.mpr hc, fun a i h => ?_, fun _ _ _ => rfl, Ext.refl, fun i d o h => ?_, hk.cap, ?_⟩
  · unfold dem at h
    cases e : ow a with
    | none => rw [e] at h; cases h
    | some j => rw [e] at h; cases h
  · obtain ⟨ho, hd⟩ := start_get h
    obtain ⟨v, hv, rv⟩ := r.get hd
    have hi : i < vs.length := by
      by_cases z : i < vs.length
      · exact z
      · rw [List.getElem?_eq_none (by omega)] at hv; cases hv
    refine ⟨v, ?_, fun _ => Rp.mono dem_keep _ _ rv, fun z => by rw [ho] at z; cases z⟩
    unfold L2.start
    rw [List.getElem?_append_left (by simpa using hi), List.getElem?_map, hv]
    rfl
  · unfold Py.start L2.start
    simp [r.length]
/-- what is made of the module's def -/
structure FdOk (U : Wd) (x : Str) (F : Fd) : Prop where
  ex : ∃ nm qual st f fd, L2.Fun U.K nm qual st f fd ∧ FnScope F.N F.ps (defScope st) ∧ F.sc = defScope st ∧ F.body = defBody st ∧ U.mg x = some (.ref f) ∧ Binds U.K fd F.ps []
structure PrOk (U : Wd) (k : Nat) (x : Str) (p : List Py.D → M Py.D) : Prop where
  ex : ∃ f fd ps, U.mg x = some (.ref f) ∧ PySem.W.keepIn U.K (.ref f) = true ∧ Binds U.K fd ps [] ∧ FnOk U.P U.w U.K U.mg U.base (L2.CX U.P U.w) k f fd ps (spF U (fun _ => p) ⟨false, true⟩ x ps.length) ∧ ∀ ds s, ds.length ≠ ps.length → p ds s = .fail
theorem fn_sound {P : Pg} {w j : Nat} {x : Str} {F : Fd} (go : GlOk U k (P.gl (P.call w j))) (gf : FnsOk U k (P.gl (P.call w j))) (hp : P.prim x = none) (hF : P.fd x = some F) (ok : FdOk U x F) :
    ∃ f fd ps, U.mg x = some (.ref f) ∧ PySem.W.keepIn U.K (.ref f) = true ∧ Binds U.K fd ps [] ∧ FnOk U.P U.w U.K U.mg U.base (L2.CX U.P U.w) (k + 1) f fd ps (spF U (P.call w (j + 1)) F.flg x ps.length) ∧ ∀ ds s, ds.length ≠ ps.length → P.call w (j + 1) x ds s = .fail := by
  obtain ⟨nm, qual, st, f, fd, Fn, S, hsc, hbd, hm, hb⟩ := ok.ex
  have hcall : ∀ ds, P.call w (j + 1) x ds = runFd (P.gl (P.call w j)) w F ds := fun ds => by
    unfold Pg.call
    rw [hp, hF]
  refine ⟨f, fd, F.ps, hm, Fn.kp, hb, Fn.okX S (fun vs H Q E h => h.1) fun cdv A outer s0 H vs Q E hr hsp => ?_, fun ds s hl => ?_⟩
  · obtain ⟨hl, ow, s, ds, hk, hcl, r, w'⟩ := hsp
    rw [hcall] at w'
    unfold runFd at w'
    obtain ⟨_, w'⟩ := w'.of_guard
    have w' := quiet_wp w'.of_bind
    have g : GoodS U k ⟨F.N, F.sc, F.sc⟩ (cxOf (L2.CX U.P U.w) U.P U.w U.K U.mg U.base F.N qual (defScope st) f cdv A outer s0 H E) (fun cls d _ H => E cls d H) :=
      ⟨⟨rfl, rfl, rfl, rfl, rfl, rfl, hsc.symm, S.nd, rfl, hr, takes_of rfl rfl rfl rfl, fun _ h => h, fun _ h => ⟨h, rfl⟩⟩, rfl, passes_of rfl, rfl, rfl, by show F.sc.kind = _; rw [hsc]; exact S.kind⟩
    rw [← hbd]
    refine ⟨_, snd_x go gf 60 _ _ g F.body, H, dem ow, H, dem ow, dem ow, _, s, SR.start hk hcl r, Keep.refl, w'.mono (fun fl s2 q2 => ?_) fun _ _ z => z⟩
    have back : ∀ {ow2 : Ow} {H2 : Hp}, (∀ a u, H a = some u → ow2 a = dem ow a) → ∀ b, ow2 b = none → ow b = none := fun ag b hb => by
      cases e : H b with
      | none =>
        cases e2 : ow b with
        | none => rfl
        | some i =>
          obtain ⟨u, hu, _⟩ := hk.1 b (by rw [e2]; intro z; cases z)
          rw [e] at hu; cases hu
      | some u => exact dem_none.mp ((ag b u e).symm.trans hb)
    cases fl with
    | nx σ' =>
      intro ow2 σ2 H2 S2 _
      unfold endF at q2
      rcases q2.of_ite with ⟨_, q2⟩ | ⟨_, q2⟩
      · exact q2.of_fail.elim
      · exact q2.of_pure _ H2 S2.base S2.cap Rp.none fun z => by simp [isL] at z
    | brk σ' => exact q2.of_fail.elim
    | ct σ' => exact q2.of_fail.elim
    | ret d o =>
      intro ow2 σ2 H2 σ2d v S2 r1 r2
      unfold endF at q2
      have q3 : ¬ ((F.flg.fr = true ∧ o = false) ∨ (F.flg.fl = true ∧ flat d = false)) ∧ PostE U ow (fun d => F.flg.fr && isL d) H Q d s2 := by
        rcases q2.of_ite with ⟨_, q2⟩ | ⟨hno, q2⟩
        · exact q2.of_fail.elim
        · exact ⟨hno, q2.of_pure⟩
      clear q2
      obtain ⟨hno, q2⟩ := q3
      have bk := back (ow2 := ow2) (H2 := H2) S2.agr
      cases o with
      | false =>
        exact q2 v H2 S2.base S2.cap (Rp.mono (fun b u _ hb e => ⟨e, bk b hb⟩) _ _ (r1 rfl)) fun z => by
          rw [Bool.and_eq_true] at z
          exact absurd (.inl ⟨z.1, rfl⟩) hno
      | true =>
        obtain ⟨a, u0, ev, hn, ha, hca, rr⟩ := r2 rfl
        have hoa : ow a = none := by
          cases e2 : ow a with
          | none => rfl
          | some i =>
            obtain ⟨u, hu, _⟩ := hk.1 a (by rw [e2]; intro z; cases z)
            rw [hn] at hu; cases hu
        have bk2 : ∀ b, (if b = a then some 0 else ow2 b) = none → b ≠ a ∧ ow b = none := fun b hb => by
          by_cases z : b = a
          · rw [if_pos z] at hb; cases hb
          · rw [if_neg z] at hb; exact ⟨z, bk b hb⟩
        refine q2 v H2 S2.base S2.cap ?_ fun _ => ⟨a, u0, ev, hn, ha, hca, fun i => Sh.mono (fun b u _ hb e => ⟨e, ?_⟩) rr⟩
        · rw [ev]
          rcases rr with ⟨ds, xs, ed, eu, rr⟩ | ⟨ds, xs, ed, eu, rr⟩
          · subst ed eu
            unfold Rp
            exact ⟨a, xs, rfl, ⟨ha, hoa, hca⟩, RpL.mono (fun b u _ hb e => ⟨e, (bk2 b hb).2⟩) _ _ rr⟩
          · subst ed eu
            unfold Rp
            exact .inr ⟨a, xs, rfl, .inl ⟨ha, hoa, hca⟩, RpD.mono (fun b u _ hb e => ⟨e, (bk2 b hb).2⟩) _ _ rr⟩
        · show (if b = a then some i else ow b) = none
          rw [if_neg (bk2 b hb).1]
          exact (bk2 b hb).2
    | rz x σ' =>
      intro ow2 σ2 H2 cls od S2 r
      exact (show PostXE U E H x s2 from q2) cls od H2 S2.base S2.cap r
  · rw [hcall]
    unfold runFd
    rw [if_neg hl]
    rfl
/-- the program -/
structure PgOk (U : Wd) (P : Pg) (k : Nat) : Prop where
  gl : ∀ j call, GlOk U j (P.gl call)
  fd : ∀ x F, P.prim x = none → P.fd x = some F → FdOk U x F
  pr : ∀ x p, P.prim x = some p → PrOk U k x p
theorem spF_fail {call : Str → List Py.D → M Py.D} {fg : Flg} {x : Str} {n : Nat} (h : ∀ ds, call x ds = fail) {vs : List V} {H : Hp} {Q : VK} {E : XK} (q : spF U call fg x n vs H Q E) : False := by
  obtain ⟨_, _, _, _, _, _, _, w⟩ := q
  rw [h] at w
  exact w.of_fail
theorem pg_sound {P : Pg} {w k0 : Nat} (ok : PgOk U P k0) : ∀ j, FnsOk U (k0 + j) (P.gl (P.call w j))
  | 0 => ⟨fun x fg hx => by
    have hf : ∀ ds, P.call w 0 x ds = fail := fun _ => rfl
    have hx : P.flg x = some fg := hx
    unfold Pg.flg at hx
    cases hp : P.prim x with
    | some p =>
      obtain ⟨f, fd, ps, h1, h2, h3, _, _⟩ := (ok.pr x p hp).ex
      exact ⟨f, fd, ps, h1, h2, h3, ⟨fun vs H Q E h => (spF_fail hf h).elim, fun A outer s H args us vs Q E _ _ _ _ h => (spF_fail hf h).elim⟩, fun _ _ _ => rfl⟩
    | none =>
      rw [hp] at hx
      cases hF : P.fd x with
      | none => rw [hF] at hx; cases hx
      | some F =>
        obtain ⟨nm, qual, st, f, fd, Fn, S, hsc, hbd, hm, hb⟩ := (ok.fd x F hp hF).ex
        exact ⟨f, fd, F.ps, hm, Fn.kp, hb, ⟨fun vs H Q E h => (spF_fail hf h).elim, fun A outer s H args us vs Q E _ _ _ _ h => (spF_fail hf h).elim⟩, fun _ _ _ => rfl⟩⟩
  | j + 1 => ⟨fun x fg hx => by
    have hx : P.flg x = some fg := hx
    unfold Pg.flg at hx
    cases hp : P.prim x with
    | some p =>
      rw [hp] at hx
      cases hx
      obtain ⟨f, fd, ps, h1, h2, h3, h4, h5⟩ := (ok.pr x p hp).ex
      have hc : ∀ ds, P.call w (j + 1) x ds = p ds := fun ds => by unfold Pg.call; rw [hp]
      refine ⟨f, fd, ps, h1, h2, h3, (h4.mono (by omega)).imp fun vs H Q E h => ?_, fun ds s hl => by show P.call w (j + 1) x ds s = _; rw [hc]; exact h5 ds s hl⟩
      obtain ⟨a, ow, s, ds, b, c, d, e⟩ := h
      have e : Wp (P.call w (j + 1) x ds) s _ _ := e
      rw [hc] at e
      exact ⟨a, ow, s, ds, b, c, d, e⟩
    | none =>
      rw [hp] at hx
      cases hF : P.fd x with
      | none => rw [hF] at hx; cases hx
      | some F =>
        rw [hF] at hx
        cases hx
        exact fn_sound (ok.gl _ _) (pg_sound ok j) hp hF (ok.fd x F hp hF)⟩
end
end Py

set_option Elab.async false
set_option linter.all false
set_option maxRecDepth 100000
set_option maxHeartbeats 1000000
namespace Py
open PySem PySem.Spec PyProof.Rows L2
/-- the token for the drawing row -/
abbrev tok : Py.D := .dict [(.none, .none)]
def takeP : List Py.D → M Py.D
  | [.dict [(.none, .none)], .int n] => take n
  | _ => fail
def absZ (n : Int) : Int := if n < 0 then -n else n
/-- what _law_draw makes -/
def spDraw (K : PySem.W.Frag) : Sp := fun vs H Q _ => ∃ (a : Addr) (ns : List Int), vs = [.ref a] ∧ SqL K H a (ns.map V.int) ∧ ns.length ≤ 63 ∧
  ∀ (p c : Addr) (H' : Hp) (sd : Int), p ≠ c → (∀ b u, H b = some u → H' b = some u) → 0 ≤ sd → sd < 2147483647 → H' p = some (.lst [.ref c, .int (-1), .int 0, .int sd]) → H' c = some (.lst ((ns.map absZ).map V.int)) → Q (.ref p) H'
/-- what the law promises -/
def spLaw (K : PySem.W.Frag) : Sp := fun vs H Q _ => ∃ (a : Addr) (ns : List Int), vs = [.ref a] ∧ SqL K H a (ns.map V.int) ∧ ns.length ≤ 63 ∧ ∀ H', Q (.bl true) H'
def startL (n : Nat) : St := (List.replicate n none).set 1 (some (tok, false))
/-- the body behind the drawing row runs to True -/
def LawRun (P : Pg) (j w : Nat) (N : List Str) (sc : Scope) (rest : List Stmt) : Prop := ∀ (ns : List Int) (sd : Int), ns.length ≤ 63 → 0 ≤ sd → sd < 2147483647 →
  Wp (exec (P.gl (P.call w j)) (evE (P.gl (P.call w j)) 40) w ⟨N, sc, sc⟩ 60 (startL N.length) rest) ⟨ns.map absZ, -1, 0, sd⟩ (fun fl _ => ∃ o, fl = .ret (.bool true) o) fun _ _ => False
theorem law_sound {P0 : Program} {w0 : World} {K : PySem.W.Frag} {mg : Str → Option Value} {base : Heap} {P : Pg} {k0 j w : Nat} {st : Stmt} {f fdr : Addr} {fd fdd : FuncData} {N : List Str} {rest : List Stmt} {p1 p2 p3 p4 p5 : Pos}
    (ok : ∀ cap cell, PgOk ⟨P0, w0, K, mg, base, cap, cell⟩ P k0) (F : L2.Fun K "law" "law" st f fd) (S : FnScope N ["script"] (defScope st))
    (hb : defBody st = .Assign [.Name "draw" p1] (.Call (.Name "_law_draw" p2) [.Name "script" p3] [] p4) p5 :: rest) (h0 : N[0]? = some ("script" : Str)) (h1 : N[1]? = some ("draw" : Str)) (v0 : (defScope st).names.lookup ("script" : Str) = some .local) (v1 : (defScope st).names.lookup ("draw" : Str) = some .local ∨ (defScope st).names.lookup ("draw" : Str) = some .cell)
    (gd : (defScope st).names.lookup ("_law_draw" : Str) = some .globalImplicit)
    (D0 : FnOk P0 w0 K mg base (L2.CX P0 w0) 1 fdr fdd ["script"] (spDraw K)) (hm : mg "_law_draw" = some (.ref fdr)) (hk : PySem.W.keepIn K (.ref fdr) = true) (hbd : Binds K fdd ["script"] []) (hk0 : 1 ≤ k0)
    (run : LawRun P j w N (defScope st) rest) : FnOk P0 w0 K mg base (L2.CX P0 w0) (k0 + j + 1) f fd ["script"] (spLaw K) := by
  refine F.okX S (fun vs H Q E h => by obtain ⟨a, ns, rfl, _⟩ := h; rfl) fun cdv A outer s0 H vs Q E hr h => ?_
  obtain ⟨a, ns, rfl, hS, h63, q⟩ := h
  rw [hb]
  have rs : PSs (cxOf (L2.CX P0 w0) P0 w0 K mg base N "law" (defScope st) f cdv A outer s0 H E) rest (fun D σ H' => ∃ cap cell, tOfS ⟨P0, w0, K, mg, base, cap, cell⟩ (fun cls d _ H => E cls d H) (fun σ => exec (P.gl (P.call w j)) (evE (P.gl (P.call w j)) 40) w ⟨N, defScope st, defScope st⟩ 60 σ rest) D σ H') := ⟨fun pins s σ H' D I ⟨cap, cell, h⟩ => by
    have g : GoodS ⟨P0, w0, K, mg, base, cap, cell⟩ (k0 + j) ⟨N, defScope st, defScope st⟩ (cxOf (L2.CX P0 w0) P0 w0 K mg base N "law" (defScope st) f cdv A outer s0 H E) (fun cls d _ H => E cls d H) :=
      ⟨⟨rfl, rfl, rfl, rfl, rfl, rfl, rfl, S.nd, rfl, hr, takes_of rfl rfl rfl rfl, fun _ h => h, fun _ h => ⟨h, rfl⟩⟩, rfl, passes_of rfl, rfl, rfl, S.kind⟩
    exact (snd_x ((ok cap cell).gl _ _) (pg_sound (ok cap cell) j) 60 _ _ g rest).run pins s σ H' D I h⟩
  refine ⟨_, pss_cons (ps_set (i := 1) S.nd h1 v1 (pe_call (E := E0) (D0.mono (by omega : 1 ≤ k0 + j)) hr gd hm hk hbd .nil passL (pa_cons (pe_var (i := 0) h0 (.inl v0)) pa_nil)) rfl (.inl rfl)) rs, ?_⟩
  refine ⟨_, (by unfold L2.start; rfl), a, ns, rfl, hS, h63, fun p c H' sd hpc hx g0 g1 hp hc => ⟨p, c, H', fun _ => none, H', fun _ => none, fun _ => none, startL N.length, ⟨ns.map absZ, -1, 0, sd⟩, ?_, Keep.refl, (run ns sd h63 g0 g1).mono (fun fl s2 ⟨o, e⟩ => ?_) fun _ _ z => z⟩⟩
  · have hl : 2 ≤ N.length := by
      by_cases z : 2 ≤ N.length
      · exact z
      · rw [List.getElem?_eq_none (by omega)] at h1; cases h1
    refine ⟨fun _ h => absurd rfl h, rfl, rfl, fun _ _ h => (nomatch h), fun _ _ _ => rfl, Ext.refl, fun i d o h => ?_, ⟨hp, hc, fun z => hpc z.symm⟩, ?_⟩
    · unfold startL at h
      by_cases hi : 1 = i
      · subst hi
        rw [List.getElem?_set_self (by simp; omega)] at h
        cases h
        refine ⟨.ref p, List.getElem?_set_self (by unfold L2.start; simp; omega), fun _ => ?_, fun z => nomatch z⟩
        unfold Rp
        exact .inl ⟨rfl, rfl⟩
      · rw [List.getElem?_set_ne hi, List.getElem?_replicate] at h
        split at h <;> cases h
    · unfold startL L2.start
      simp
      omega
  · subst e
    intro ow σ H2 σd v S2 r1 r2
    cases o with
    | true =>
      obtain ⟨_, _, _, _, _, _, rr⟩ := r2 rfl
      rcases rr with ⟨_, _, e, _⟩ | ⟨_, _, e, _⟩ <;> cases e
    | false =>
      have := r1 rfl
      unfold Rp at this
      subst this
      exact q H2
end Py

set_option Elab.async false
set_option linter.all false
set_option maxRecDepth 100000
namespace Py
open PySem
/-! What a def's run is, with neither names nor text: the parts. -/
def rd (σ : St) (i : Nat) : M D := match σ[i]? with
  | some (some (d, own)) => if own = true ∧ true = false then fail else pure d
  | _ => fail
def rdV (σ : St) (i : Nat) : M D := match σ[i]? with
  | some (some (d, own)) => if own = true ∧ false = false then fail else pure d
  | _ => fail
def ownI (σ : St) (i : Nat) : Option (Nat × List D) := match σ[i]? with
  | some (some (.list ds, true)) => some (i, ds)
  | _ => none
def evsS : List (M D) → M (List D)
  | [] => pure []
  | m :: ms => do let d ← m; let ds ← evsS ms; pure (d :: ds)
def tstS (m : M D) : M Bool := do let d ← m; asBool d
def andS : List (M D) → M D
  | [] => fail
  | [m] => m
  | m :: ms => do let b ← tstS m; if b = true then andS ms else pure (.bool false)
def orS : List (M D) → M D
  | [] => fail
  | [m] => m
  | m :: ms => do let b ← tstS m; if b = true then pure (.bool true) else orS ms
def ifeS (c a b : M D) : M D := do let t ← tstS c; if t = true then a else b
def binS (op : Operator) (a b : M D) : M D := do let x ← a; let y ← b; binop op x y
def negS (a : M D) : M D := do let x ← a; let i ← asInt x; pure (.int (-i))
def notS (a : M D) : M D := do let b ← tstS a; pure (.bool (!b))
def tupS (ms : List (M D)) : M D := do let ds ← evsS ms; if ds.length ≤ sline then pure (.tuple ds) else fail
def lstS (ms : List (M D)) : M D := do let ds ← evsS ms; if ds.length ≤ sline then pure (.list ds) else fail
def ixS (a i : M D) : M D := do let x ← a; let k ← i; getD' x k
def optS : Option (M D) → M (Option Int)
  | none => pure none
  | some m => do let d ← m; let i ← asInt d; pure (some i)
def slS (a : M D) (lo hi : Option (M D)) : M D := do let x ← a; let l ← optS lo; let h ← optS hi; getS x l h
def isiS (a : M D) (t : Str) : M D := do
  let x ← a
  match isi x t with
  | some b => pure (.bool b)
  | none => fail
def isiS2 (a : M D) (t t2 : Str) : M D := do
  let x ← a
  match isi x t, isi x t2 with
  | some b, some c => pure (.bool (b || c))
  | _, _ => fail
def biS (f : Str) (ms : List (M D)) : M D := do let xs ← evsS ms; bi f xs
def callS (call : Str → List D → M D) (f : Str) (ms : List (M D)) : M D := do let xs ← evsS ms; call f xs
def call0S (call : Str → List D → M D) (f : Str) : M D := do let xs ← evsS []; quiet (call f xs)
def met1S (m : Str) (o e : M D) : M D := do let x ← o; methD x m e
def callF (call : Str → List D → M D) (f : Str) (ms : List (M D)) : M D := do
  let xs ← evsS ms
  let d ← call f xs
  if flat d = true then pure d else fail
def iterS (g : Str) (ms : List (M D)) : M (List D) := do let xs ← evsS ms; iterC g xs
def compS (items : M (List D)) (bind : D → Option St) (f : St → M Bool) (g : St → M D) : M D := do
  let ds ← items
  let ys ← quiet (compL bind f g ds)
  if ys.length ≤ sline then pure (.list ys) else fail
def comp2S (items : M (List D)) (bind : D → Option St) (f : St → M Bool) (it : St → M (List D)) (vs : List Nat) (bind2 : St → D → Option St) (f2 : St → M Bool) (g : St → M D) : M D := do
  let ds ← items
  let ys ← quiet (compL2 bind f it vs bind2 f2 g ds)
  if ys.length ≤ sline then pure (.list ys) else fail
def sRet (σ : St) (m : M D) (fr : Bool) : M Flow := stE m σ fun d => pure (.ret d (fr && isL d))
def ownDI (σ : St) (i : Nat) : Option (Nat × List (D × D)) := match σ[i]? with
  | some (some (.dict kvs, true)) => some (i, kvs)
  | _ => none
/-- {k: v, ..} -/
def pairsS : List (M D × M D) → M (List (D × D))
  | [] => pure []
  | p :: r => do let x ← p.1; let y ← p.2; let ps ← pairsS r; pure ((x, y) :: ps)
def dctS (r : List (M D × M D)) : M D := do
  let ps ← pairsS r
  if dOk ps = true ∧ (ps.map fun p => keyD p.1).Nodup then pure (.dict ps) else fail
def sRetN (σ : St) (i : Nat) : M Flow := match ownI σ i with
  | some (_, ds) => pure (.ret (.list ds) true)
  | none => match ownDI σ i with
    | some (_, kvs) => if dOk kvs = true then pure (.ret (.dict kvs) true) else fail
    | none => stE (rdV σ i) σ fun d => pure (.ret d false)
def sAsg (σ : St) (m : M D) (i : Nat) (fr : Bool) : M Flow := stE m σ fun d => nx1 (some (σ.set i (some (d, fr && isL d))))
def sIf (σ : St) (c : M D) (a b : M Flow) : M Flow := stE (tstS c) σ fun t => if t = true then a else b
def sWhile (c : St → M D) (body : St → M Flow) (n : Nat) (σ : St) : M Flow := whileL (fun σ => tstS (c σ)) body n σ
def sFor (σ : St) (items : M (List D)) (t : Tg) (body : St → M Flow) : M Flow := stE items σ fun ds => forL (bindG t) body ds σ
def sTup (σ : St) (m : M D) (t : Tg) : M Flow := stE m σ fun d => nx1 (bindG t σ d)
def setZ : St → List Nat → List D → Option St
  | σ, i :: is, d :: ds => (some (σ.set i (some (d, false)))).bind fun σ' => setZ σ' is ds
  | σ, _, _ => some σ
def sPar (σ : St) (ms : List (M D)) (is : List Nat) : M Flow := stE (evsS ms) σ fun ds => nx1 (setAll σ is ds)
def sParN (σ : St) (ns : List Bool) (ms : List (M D)) (is : List Nat) : M Flow := stE (evsS ms) σ fun ds => nx1 (setPar ns σ is ds)
def revS (a : M D) : M D := do let x ← a; revD x
def sSub (σ : St) (l : Nat) (i e : M D) : M Flow := stE e σ fun d => match ownI σ l with
  | some (k, ds) => stE i σ fun j => match j with
    | .int j => match L2.ixN ds.length j with
      | some n => pure (.nx (σ.set k (some (.list (ds.set n d), true))))
      | none => fail
    | _ => fail
  | none => match ownDI σ l with
    | some (k, kvs) => stE i σ fun j => match keyD j with
      | some _ => if kvs.length < 1000 then pure (.nx (σ.set k (some (.dict (dPut kvs j d), true)))) else fail
      | none => fail
    | none => fail
def sAug (σ : St) (i : Nat) (op : Operator) (e : M D) : M Flow := match σ[i]? with
  | some (some (.int a, _)) => stE e σ fun d => match d with
    | .int b => match augI op a b with
      | some c => nx1 (some (σ.set i (some (.int c, false))))
      | none => fail
    | _ => fail
  | _ => fail
def sAugS (σ : St) (l : Nat) (i : M D) (op : Operator) (e : M D) : M Flow := match ownI σ l with
  | some (k, ds) => stE i σ fun j => match j with
    | .int j => match L2.ixN ds.length j with
      | some n => match ds[n]? with
        | some (.int a) => stE e σ fun d => match d with
          | .int b => match augI op a b with
            | some c => pure (.nx (σ.set k (some (.list (ds.set n (.int c)), true))))
            | none => fail
          | _ => fail
        | _ => fail
      | none => fail
    | _ => fail
  | none => fail
def sApp (σ : St) (l : Nat) (e : M D) : M Flow := match ownI σ l with
  | some (k, ds) => stE e σ fun d => if ds.length < sline then pure (.nx (σ.set k (some (.list (ds ++ [d]), true)))) else fail
  | none => fail
def sExt (σ : St) (l : Nat) (e : M D) : M Flow := match ownI σ l with
  | some (k, ds) => stE e σ fun d => match d with
    | .list es => if ds.length + es.length ≤ sline then pure (.nx (σ.set k (some (.list (ds ++ es), true)))) else fail
    | _ => fail
  | none => fail
/-- x = l.pop(), x = l.pop(e) -/
def sPop (σ : St) (x l : Nat) : M Flow := match ownI σ l with
  | some (i, ds) => match ds.getLast? with
    | some d => nx1 (some ((σ.set i (some (.list ds.dropLast, true))).set x (some (d, false))))
    | none => fail
  | none => fail
def sPopE (σ : St) (x l : Nat) (e : M D) : M Flow := match ownI σ l with
  | some (i, ds) => stE e σ fun j => match j with
    | .int j => match L2.ixN ds.length j with
      | some k => match ds[k]? with
        | some d => if in62 j = true then nx1 (some ((σ.set i (some (.list (ds.eraseIdx k), true))).set x (some (d, false)))) else fail
        | none => fail
      | none => fail
    | _ => fail
  | none => fail
/-- list(range(..)), tuple(range(..)) -/
def rngS (h : Str) (ms : List (M D)) : M D := do
  let xs ← evsS ms
  let ds ← iterC "range" xs
  if ds.length ≤ sline then pure (if h = ("list" : Str) then .list ds else .tuple ds) else fail
def sPop0 (σ : St) (l : Nat) : M Flow := match ownI σ l with
  | some (i, ds) => if ds.length = 0 then fail else pure (.nx (σ.set i (some (.list ds.dropLast, true))))
  | none => fail
def sExp (σ : St) (m : M D) : M Flow := stE m σ fun _ => pure (.nx σ)
def sRaise (c : Str) (σ : St) : M Flow := pure (.rz ⟨c, []⟩ σ)
def sRaiseF (c m : Str) (σ : St) : M Flow := pure (.rz ⟨c, [("reason", .str m)]⟩ σ)
def sTry (m : M Flow) (k : Flow → M Flow) : M Flow := M.bind m k
def andV : Option D → Option D → Option D
  | some (.bool p), some (.bool q) => some (.bool (p && q))
  | _, _ => none
def catV : Option D → Option D → Option D
  | some (.str p), some (.str q) => if p.length + q.length ≤ sline then some (.str (p ++ q)) else none
  | _, _ => none
def ifV (c a b : Option D) : Option D := match c with
  | some (.bool t) => if t = true then a else b
  | _ => none
def fldV (ini : Str → Bool) (x : Exc) : Option D := if ini x.cls = true then (match x.flds with
    | [(_, .str m)] => some (.str m)
    | _ => none) else none
def consV (a : Option D) (b : Option (List D)) : Option (List D) := match a, b with
    | some d, some ds => some (d :: ds)
    | _, _ => none
abbrev ClauseS := Str × (Nat → Bool) × (Exc → Option D)
def clausesS (x : Exc) (σ' : St) : List ClauseS → M Flow
  | [] => pure (.rz x σ')
  | (c, _, h) :: r => if x.cls = c then (match h x with
      | some d => pure (.ret d false)
      | none => fail) else clausesS x σ' r
def catchM (exc : Str → Bool) (l : List ClauseS) (fl : Flow) : M Flow := match fl with
  | .rz x σ' => if exc x.cls = true ∧ (l.all fun p => p.2.1 σ'.length) = true then clausesS x σ' l else fail
  | .nx σ' => pure (.nx σ')
  | .ret d o => pure (.ret d o)
  | .brk σ' => pure (.brk σ')
  | .ct σ' => pure (.ct σ')
def catchS (exc : Str → Bool) (c : Str) (inn : Nat → Bool) (hv : Str → Option D) (fl : Flow) : M Flow := catchM exc [(c, inn, fun x => hv x.cls)] fl
def sEnd (σ : St) : M Flow := pure (.nx σ)
def startN (n : Nat) (ds : List D) : St := (ds.map fun d => some (d, false)) ++ List.replicate (n - ds.length) none
def runS (fg : Flg) (np n : Nat) (body : St → M Flow) (ds : List D) : M D := if ds.length = np then do
    let fl ← quiet (body (startN n ds))
    endF fg fl
  else fail
end Py

set_option Elab.async false
set_option linter.all false
set_option maxRecDepth 100000
namespace Py
open PySem
/-! The parts by values: what simp does with them. -/
abbrev lisD (xs : List Int) : D := .list (xs.map PyData.int)
abbrev tupD (xs : List Int) : D := .tuple (xs.map PyData.int)
section
variable {α β : Type}
@[simp] theorem pure_bd (a : α) (k : α → M β) : ((pure a : M α) >>= k) = k a := of_eq_true (eq_self _)
@[simp] theorem fail_bd (k : α → M β) : ((fail : M α) >>= k) = fail := of_eq_true (eq_self _)
@[simp] theorem throw_bd (x : Exc) (k : α → M β) : ((throwX x : M α) >>= k) = throwX x := of_eq_true (eq_self _)
theorem assoc_bd {γ : Type} (m : M α) (k : α → M β) (l : β → M γ) : ((m >>= k) >>= l) = (m >>= fun a => k a >>= l) := by
  funext s
  show M.bind (M.bind m k) l s = M.bind m (fun a => M.bind (k a) l) s
  unfold M.bind
  cases m s <;> rfl
theorem ite_bd (c : Prop) [Decidable c] (m n : M α) (k : α → M β) : ((if c then m else n) >>= k) = if c then m >>= k else n >>= k := by
  split <;> rfl
@[simp] theorem quiet_pure (a : α) : quiet (pure a : M α) = pure a := of_eq_true (eq_self _)
@[simp] theorem quiet_fail : quiet (fail : M α) = fail := of_eq_true (eq_self _)
@[simp] theorem quiet_throw (x : Exc) : quiet (throwX x : M α) = fail := of_eq_true (eq_self _)
@[simp] theorem quiet_ite (c : Prop) [Decidable c] (m n : M α) : quiet (if c then m else n) = if c then quiet m else quiet n := by split <;> rfl
/-! runs at a state -/
def Res.bnd : Res α → (α → M β) → Res β
  | .ok a s, k => k a s
  | .exc x s, _ => .exc x s
  | .fail, _ => .fail
@[simp] theorem bnd_ok (a : α) (s : DS) (k : α → M β) : Res.bnd (.ok a s) k = k a s := of_eq_true (eq_self _)
@[simp] theorem bnd_exc (x : Exc) (s : DS) (k : α → M β) : Res.bnd (.exc x s) k = .exc x s := of_eq_true (eq_self _)
@[simp] theorem bnd_fail (k : α → M β) : Res.bnd .fail k = .fail := of_eq_true (eq_self _)
theorem bd_at (m : M α) (k : α → M β) (s : DS) : (m >>= k) s = (m s).bnd k := by
  show M.bind m k s = _
  unfold M.bind Res.bnd
  cases m s <;> rfl
@[simp] theorem pure_at (a : α) (s : DS) : (pure a : M α) s = .ok a s := of_eq_true (eq_self _)
@[simp] theorem fail_at (s : DS) : (fail : M α) s = .fail := of_eq_true (eq_self _)
@[simp] theorem throw_at (x : Exc) (s : DS) : (throwX x : M α) s = .exc x s := of_eq_true (eq_self _)
theorem ite_at (c : Prop) [Decidable c] (m n : M α) (s : DS) : (if c then m else n) s = if c then m s else n s := by split <;> rfl
def Res.stb : Res α → St → (α → M Flow) → Res Flow
  | .ok a s, _, k => k a s
  | .exc x s, σ, _ => .ok (.rz x σ) s
  | .fail, _, _ => .fail
@[simp] theorem stb_ok (a : α) (s : DS) (σ : St) (k : α → M Flow) : Res.stb (.ok a s) σ k = k a s := of_eq_true (eq_self _)
@[simp] theorem stb_exc (x : Exc) (s : DS) (σ : St) (k : α → M Flow) : Res.stb (.exc x s) σ k = .ok (.rz x σ) s := of_eq_true (eq_self _)
@[simp] theorem stb_fail (σ : St) (k : α → M Flow) : Res.stb .fail σ k = .fail := of_eq_true (eq_self _)
theorem stE_at (m : M α) (σ : St) (k : α → M Flow) (s : DS) : stE m σ k s = (m s).stb σ k := by
  unfold stE Res.stb
  cases m s <;> rfl
@[simp] theorem stE_pure (a : α) (σ : St) (k : α → M Flow) : stE (pure a) σ k = k a := of_eq_true (eq_self _)
@[simp] theorem q_stE_fail (σ : St) (k : α → M Flow) : stE (fail : M α) σ k = fail := of_eq_true (eq_self _)
@[simp] theorem stE_throw (x : Exc) (σ : St) (k : α → M Flow) : stE (throwX x : M α) σ k = pure (.rz x σ) := of_eq_true (eq_self _)
def Res.fl : Res Flow → (St → M Flow) → Res Flow
  | .ok (.nx σ) s, k => k σ s
  | .ok f s, _ => .ok f s
  | .exc x s, _ => .exc x s
  | .fail, _ => .fail
@[simp] theorem fl_nx (σ : St) (s : DS) (k : St → M Flow) : Res.fl (.ok (.nx σ) s) k = k σ s := of_eq_true (eq_self _)
@[simp] theorem fl_ret (d : D) (o : Bool) (s : DS) (k : St → M Flow) : Res.fl (.ok (.ret d o) s) k = .ok (.ret d o) s := of_eq_true (eq_self _)
@[simp] theorem fl_brk (σ : St) (s : DS) (k : St → M Flow) : Res.fl (.ok (.brk σ) s) k = .ok (.brk σ) s := of_eq_true (eq_self _)
@[simp] theorem fl_ct (σ : St) (s : DS) (k : St → M Flow) : Res.fl (.ok (.ct σ) s) k = .ok (.ct σ) s := of_eq_true (eq_self _)
@[simp] theorem fl_rz (x : Exc) (σ : St) (s : DS) (k : St → M Flow) : Res.fl (.ok (.rz x σ) s) k = .ok (.rz x σ) s := of_eq_true (eq_self _)
@[simp] theorem fl_fail (k : St → M Flow) : Res.fl .fail k = .fail := of_eq_true (eq_self _)
@[simp] theorem fl_exc (x : Exc) (s : DS) (k : St → M Flow) : Res.fl (.exc x s) k = .exc x s := of_eq_true (eq_self _)
theorem thenF_at (m : M Flow) (k : St → M Flow) (s : DS) : thenF m k s = (m s).fl k := by
  unfold thenF
  rw [bd_at]
  unfold Res.fl Res.bnd
  cases m s with
  | ok f s' => cases f <;> rfl
  | exc => rfl
  | fail => rfl
@[simp] theorem thenF_nx (σ : St) (k : St → M Flow) : thenF (pure (.nx σ)) k = k σ := of_eq_true (eq_self _)
@[simp] theorem thenF_ret (d : D) (o : Bool) (k : St → M Flow) : thenF (pure (.ret d o)) k = pure (.ret d o) := of_eq_true (eq_self _)
@[simp] theorem thenF_brk (σ : St) (k : St → M Flow) : thenF (pure (.brk σ)) k = pure (.brk σ) := of_eq_true (eq_self _)
@[simp] theorem thenF_ct (σ : St) (k : St → M Flow) : thenF (pure (.ct σ)) k = pure (.ct σ) := of_eq_true (eq_self _)
@[simp] theorem thenF_rz (x : Exc) (σ : St) (k : St → M Flow) : thenF (pure (.rz x σ)) k = pure (.rz x σ) := of_eq_true (eq_self _)
@[simp] theorem thenF_fail (k : St → M Flow) : thenF fail k = fail := of_eq_true (eq_self _)
theorem thenF_ite (c : Prop) [Decidable c] (m n : M Flow) (k : St → M Flow) : thenF (if c then m else n) k = if c then thenF m k else thenF n k := by split <;> rfl
theorem stE_ite (c : Prop) [Decidable c] (m n : M α) (σ : St) (k : α → M Flow) : stE (if c then m else n) σ k = if c then stE m σ k else stE n σ k := by split <;> rfl
theorem ite_pure (c : Prop) [Decidable c] (a b : α) : (if c then (pure a : M α) else pure b) = pure (if c then a else b) := by split <;> rfl
theorem ite_dbool (c : Prop) [Decidable c] (a b : Bool) : (if c then PyData.bool a else PyData.bool b) = PyData.bool (if c then a else b) := by split <;> rfl
theorem ite_dint (c : Prop) [Decidable c] (a b : Int) : (if c then PyData.int a else PyData.int b) = PyData.int (if c then a else b) := by split <;> rfl
end
/-! slots -/
def thaw : Sl → Sl
  | some (d, _) => some (d, false)
  | none => none
@[simp] theorem thaw_some (d : D) (o : Bool) : thaw (some (d, o)) = some (d, false) := of_eq_true (eq_self _)
@[simp] theorem thaw_none : thaw none = none := of_eq_true (eq_self _)
@[simp] theorem thaw_thaw (x : Sl) : thaw (thaw x) = thaw x := by cases x <;> rfl
def thawAt : Nat → St → St
  | _, [] => []
  | 0, x :: σ => thaw x :: σ
  | n + 1, x :: σ => x :: thawAt n σ
@[simp] theorem thawAt_nil (n : Nat) : thawAt n [] = [] := by cases n <;> rfl
@[simp] theorem thawAt_zero (x : Sl) (σ : St) : thawAt 0 (x :: σ) = thaw x :: σ := of_eq_true (eq_self _)
@[simp] theorem thawAt_succ (n : Nat) (x : Sl) (σ : St) : thawAt (n + 1) (x :: σ) = x :: thawAt n σ := of_eq_true (eq_self _)
theorem thawAt_set : ∀ (σ : St) (i : Nat) (d : D) (o : Bool), σ[i]? = some (some (d, o)) → σ.set i (some (d, false)) = thawAt i σ
  | [], i, d, o, h => by simp at h
  | x :: σ, 0, d, o, h => by
    simp at h
    subst h
    rfl
  | x :: σ, n + 1, d, o, h => by
    simp at h
    simp [thawAt_set σ n d o h]
theorem thawAt_id : ∀ (σ : St) (i : Nat), (∀ d o, σ[i]? ≠ some (some (d, o))) → thawAt i σ = σ
  | [], i, h => by simp
  | x :: σ, 0, h => by
    cases x with
    | none => rfl
    | some p => exact absurd rfl (h p.1 p.2)
  | x :: σ, n + 1, h => by
    simp
    exact thawAt_id σ n fun d o e => h d o (by simpa using e)
@[simp] theorem frz_nil (σ : St) : frz σ [] = σ := by cases σ <;> rfl
@[simp] theorem frz_cons (σ : St) (i : Nat) (is : List Nat) : frz σ (i :: is) = frz (thawAt i σ) is := by
  rw [frz.eq_def]
  simp only
  split
  · rename_i d o h
    rw [thawAt_set σ i d o h]
  · rename_i h
    rw [thawAt_id σ i fun d o e => h d o e]
@[simp] theorem wipe_nil (σ : St) : wipe σ [] = σ := of_eq_true (eq_self _)
@[simp] theorem wipe_cons (σ : St) (i : Nat) (is : List Nat) : wipe σ (i :: is) = (wipe σ is).set i none := of_eq_true (eq_self _)
theorem rd_def (σ : St) (i : Nat) : rd σ i = match σ[i]? with
  | some (some (d, _)) => pure d
  | _ => fail := by
  unfold rd
  split <;> simp_all
@[simp] theorem rd_zero (d : D) (o : Bool) (σ : St) : rd (some (d, o) :: σ) 0 = pure d := by simp [rd_def]
@[simp] theorem rd_succ (x : Sl) (n : Nat) (σ : St) : rd (x :: σ) (n + 1) = rd σ n := by simp [rd_def]
@[simp] theorem rdV_zero (d : D) (σ : St) : rdV (some (d, false) :: σ) 0 = pure d := by simp [rdV]
@[simp] theorem rdV_succ (x : Sl) (n : Nat) (σ : St) : rdV (x :: σ) (n + 1) = rdV σ n := by simp [rdV]
theorem ownI_some (σ : St) (i : Nat) (ds : List D) (h : σ[i]? = some (some (.list ds, true))) : ownI σ i = some (i, ds) := by
  unfold ownI
  rw [h]
theorem ownI_none (σ : St) (i : Nat) (d : D) (h : σ[i]? = some (some (d, false))) : ownI σ i = none := by
  unfold ownI
  rw [h]
  cases d <;> rfl
/-! expressions -/
@[simp] theorem evsS_nil : evsS [] = pure [] := of_eq_true (eq_self _)
@[simp] theorem evsS_pure (d : D) (ms : List (M D)) : evsS (pure d :: ms) = (do let ds ← evsS ms; pure (d :: ds)) := of_eq_true (eq_self _)
@[simp] theorem tstS_bool (b : Bool) : tstS (pure (.bool b)) = pure b := of_eq_true (eq_self _)
@[simp] theorem tstS_fail : tstS fail = fail := of_eq_true (eq_self _)
@[simp] theorem andS_one (m : M D) : andS [m] = m := of_eq_true (eq_self _)
@[simp] theorem andS_two (b : Bool) (m : M D) (ms : List (M D)) : andS (pure (.bool b) :: m :: ms) = if b = true then andS (m :: ms) else pure (.bool false) := of_eq_true (eq_self _)
@[simp] theorem orS_one (m : M D) : orS [m] = m := of_eq_true (eq_self _)
@[simp] theorem orS_two (b : Bool) (m : M D) (ms : List (M D)) : orS (pure (.bool b) :: m :: ms) = if b = true then pure (.bool true) else orS (m :: ms) := of_eq_true (eq_self _)
@[simp] theorem ifeS_pure (b : Bool) (m n : M D) : ifeS (pure (.bool b)) m n = if b = true then m else n := of_eq_true (eq_self _)
@[simp] theorem binS_pure (op : Operator) (a b : D) : binS op (pure a) (pure b) = binop op a b := of_eq_true (eq_self _)
@[simp] theorem negS_int (i : Int) : negS (pure (.int i)) = pure (.int (-i)) := of_eq_true (eq_self _)
@[simp] theorem notS_bool (b : Bool) : notS (pure (.bool b)) = pure (.bool (!b)) := of_eq_true (eq_self _)
@[simp] theorem ixS_pure (a i : D) : ixS (pure a) (pure i) = getD' a i := of_eq_true (eq_self _)
@[simp] theorem optS_none : optS none = pure none := of_eq_true (eq_self _)
@[simp] theorem optS_int (i : Int) : optS (some (pure (.int i))) = pure (some i) := of_eq_true (eq_self _)
@[simp] theorem slS_pure (a : D) (lo hi : Option (M D)) : slS (pure a) lo hi = (do let l ← optS lo; let h ← optS hi; getS a l h) := of_eq_true (eq_self _)
@[simp] theorem cmp1_pure (a b : D) (op : CmpOp) : cmp1 (pure a) (pure b) op = (do let c ← cmpop op a b; pure (.bool c)) := of_eq_true (eq_self _)
@[simp] theorem cmp2_pure (a b c : D) (op op' : CmpOp) : cmp2 (pure a) (pure b) (pure c) op op' = (do let t ← cmpop op a b; if t = true then do let u ← cmpop op' b c; pure (.bool u) else pure (.bool false)) := of_eq_true (eq_self _)
@[simp] theorem dataI_list (ds : List D) : dataI (pure (.list ds)) = pure ds := of_eq_true (eq_self _)
@[simp] theorem dataI_tuple (ds : List D) : dataI (pure (.tuple ds)) = pure ds := of_eq_true (eq_self _)
@[simp] theorem binop_add (i j : Int) : binop .Add (.int i) (.int j) = pure (.int (i + j)) := of_eq_true (eq_self _)
@[simp] theorem binop_sub (i j : Int) : binop .Sub (.int i) (.int j) = pure (.int (i - j)) := of_eq_true (eq_self _)
theorem binop_mul {i j : Int} (h : i.natAbs.log2 + j.natAbs.log2 < 1000000) : binop .Mult (.int i) (.int j) = pure (.int (i * j)) := if_pos h
theorem binop_div {i j : Int} (h : 0 < j) (h' : j.natAbs.log2 < 9000) : binop .FloorDiv (.int i) (.int j) = pure (.int (i / j)) := if_pos ⟨h, h'⟩
theorem binop_mod {i j : Int} (h : 0 < j) : binop .Mod (.int i) (.int j) = pure (.int (i % j)) := if_pos h
theorem binop_addT {a b : List D} (h : a.length + b.length ≤ sline) : binop .Add (.tuple a) (.tuple b) = pure (.tuple (a ++ b)) := if_pos h
theorem binop_addL {a b : List D} (h : a.length + b.length ≤ sline) : binop .Add (.list a) (.list b) = pure (.list (a ++ b)) := if_pos h
@[simp] theorem cmpop_lt (i j : Int) : cmpop .Lt (.int i) (.int j) = pure (decide (i < j)) := of_eq_true (eq_self _)
@[simp] theorem cmpop_le (i j : Int) : cmpop .LtE (.int i) (.int j) = pure (decide (i ≤ j)) := of_eq_true (eq_self _)
@[simp] theorem cmpop_gt (i j : Int) : cmpop .Gt (.int i) (.int j) = pure (decide (j < i)) := of_eq_true (eq_self _)
@[simp] theorem cmpop_ge (i j : Int) : cmpop .GtE (.int i) (.int j) = pure (decide (j ≤ i)) := of_eq_true (eq_self _)
@[simp] theorem cmpop_eq (x y : D) : cmpop .Eq x y = eqD x y := of_eq_true (eq_self _)
@[simp] theorem cmpop_ne (x y : D) : cmpop .NotEq x y = (do let b ← eqD x y; pure (!b)) := of_eq_true (eq_self _)
@[simp] theorem cmpop_in (x y : D) : cmpop .In x y = inD x y := of_eq_true (eq_self _)
@[simp] theorem cmpop_nin (x y : D) : cmpop .NotIn x y = (do let b ← inD x y; pure (!b)) := of_eq_true (eq_self _)
@[simp] theorem eqD_int (a b : Int) : eqD (.int a) (.int b) = pure (decide (a = b)) := by
  have h1 : PyData.eqv (.int a) (.int b) = decide (a = b) := by
    unfold PyData.eqv
    first
      | rfl
      | (by_cases h : a = b <;> simp [h])
  unfold eqD
  rw [if_pos ⟨rfl, rfl⟩, h1]
/-! built-ins -/
@[simp] theorem bi_lenL (ds : List D) : bi "len" [.list ds] = pure (.int ds.length) := of_eq_true (eq_self _)
@[simp] theorem bi_lenT (ds : List D) : bi "len" [.tuple ds] = pure (.int ds.length) := of_eq_true (eq_self _)
@[simp] theorem bi_abs (a : Int) : bi "abs" [.int a] = pure (.int (if a < 0 then -a else a)) := of_eq_true (eq_self _)
@[simp] theorem bi_int (a : Int) : bi "int" [.int a] = pure (.int a) := of_eq_true (eq_self _)
@[simp] theorem bi_listL (ds : List D) : bi "list" [.list ds] = pure (.list ds) := of_eq_true (eq_self _)
@[simp] theorem bi_listT (ds : List D) : bi "list" [.tuple ds] = pure (.list ds) := of_eq_true (eq_self _)
@[simp] theorem bi_tupleL (ds : List D) : bi "tuple" [.list ds] = pure (.tuple ds) := of_eq_true (eq_self _)
@[simp] theorem bi_tupleT (ds : List D) : bi "tuple" [.tuple ds] = pure (.tuple ds) := of_eq_true (eq_self _)
@[simp] theorem bi_max2 (i j : Int) : bi "max" [.int i, .int j] = pure (.int (max i j)) := by
  show pure _ = pure _
  congr 2
  omega
@[simp] theorem bi_min2 (i j : Int) : bi "min" [.int i, .int j] = pure (.int (min i j)) := by
  show pure _ = pure _
  congr 2
  omega
@[simp] theorem intsOf_map : ∀ xs : List Int, intsOf (xs.map PyData.int) = some xs
  | [] => rfl
  | x :: xs => by simp [intsOf, intsOf_map xs]
@[simp] theorem boolsOf_map : ∀ xs : List Bool, boolsOf (xs.map PyData.bool) = some xs
  | [] => rfl
  | x :: xs => by simp [boolsOf, boolsOf_map xs]
theorem boolsOf_map' {α : Type} (p : α → Bool) : ∀ xs : List α, boolsOf (xs.map fun x => .bool (p x)) = some (xs.map p)
  | [] => rfl
  | x :: xs => by simp [boolsOf, boolsOf_map' p xs]
theorem intsOf_map' {α : Type} (p : α → Int) : ∀ xs : List α, intsOf (xs.map fun x => .int (p x)) = some (xs.map p)
  | [] => rfl
  | x :: xs => by simp [intsOf, intsOf_map' p xs]
theorem bi_sumL {ds : List D} {ns : List Int} (h : intsOf ds = some ns) : bi "sum" [.list ds] = pure (.int ns.sum) := by
  show (match (some ds : Option (List D)).bind intsOf with | some ns => (pure (.int ns.sum) : M D) | none => fail) = _
  simp [h]
theorem bi_sumT {ds : List D} {ns : List Int} (h : intsOf ds = some ns) : bi "sum" [.tuple ds] = pure (.int ns.sum) := by
  show (match (some ds : Option (List D)).bind intsOf with | some ns => (pure (.int ns.sum) : M D) | none => fail) = _
  simp [h]
@[simp] theorem bi_sum_ints (xs : List Int) : bi "sum" [.list (xs.map PyData.int)] = pure (.int xs.sum) := bi_sumL (intsOf_map xs)
@[simp] theorem bi_sum_tup (xs : List Int) : bi "sum" [.tuple (xs.map PyData.int)] = pure (.int xs.sum) := bi_sumT (intsOf_map xs)
theorem bi_all {ds : List D} {bs : List Bool} (h : boolsOf ds = some bs) : bi "all" [.list ds] = pure (.bool (bs.all id)) := by
  show (match boolsOf ds with | some bs => (pure (.bool (bs.all id)) : M D) | none => fail) = _
  simp [h]
theorem bi_any {ds : List D} {bs : List Bool} (h : boolsOf ds = some bs) : bi "any" [.list ds] = pure (.bool (bs.any id)) := by
  show (match boolsOf ds with | some bs => (pure (.bool (bs.any id)) : M D) | none => fail) = _
  simp [h]
@[simp] theorem bi_all_map {α : Type} (p : α → Bool) (xs : List α) : bi "all" [.list (xs.map fun x => .bool (p x))] = pure (.bool (xs.all p)) := by
  rw [bi_all (boolsOf_map' p xs)]
  simp [List.all_map, Function.comp_def]
@[simp] theorem bi_any_map {α : Type} (p : α → Bool) (xs : List α) : bi "any" [.list (xs.map fun x => .bool (p x))] = pure (.bool (xs.any p)) := by
  rw [bi_any (boolsOf_map' p xs)]
  simp [List.any_map, Function.comp_def]
theorem bi_sorted (xs : List Int) : bi "sorted" [.list (xs.map PyData.int)] = pure (.list ((sortI xs).map PyData.int)) := by
  show (match intsOf (xs.map PyData.int) with | some ns => (pure (PyData.list ((sortI ns).map PyData.int)) : M D) | none => srtD (xs.map PyData.int)) = _
  simp
/-! walks -/
theorem iterC_range1 {n : Int} (h : in62 n = true) : iterC "range" [.int n] = pure (rangeD 0 n.toNat) := by
  show (if in62 n = true then pure (rangeD 0 n.toNat) else fail) = _
  rw [if_pos h]
theorem iterC_range2 {a b : Int} (h : in62 a = true) (h' : in62 b = true) : iterC "range" [.int a, .int b] = pure (rangeD a (b - a).toNat) := by
  show (if in62 a = true ∧ in62 b = true then pure (rangeD a (b - a).toNat) else fail) = _
  rw [if_pos ⟨h, h'⟩]
@[simp] theorem iterC_zipL (ds es : List D) : iterC "zip" [.list ds, .list es] = pure (zipD ds es) := of_eq_true (eq_self _)
@[simp] theorem iterC_zipT (ds es : List D) : iterC "zip" [.tuple ds, .tuple es] = pure (zipD ds es) := of_eq_true (eq_self _)
@[simp] theorem iterC_enumL (ds : List D) : iterC "enumerate" [.list ds] = pure (enumD 0 ds) := of_eq_true (eq_self _)
@[simp] theorem iterC_enumT (ds : List D) : iterC "enumerate" [.tuple ds] = pure (enumD 0 ds) := of_eq_true (eq_self _)
theorem zipD_map {α β : Type} (f : α → D) (g : β → D) : ∀ (xs : List α) (ys : List β), zipD (xs.map f) (ys.map g) = (xs.zip ys).map fun p => .tuple [f p.1, g p.2]
  | [], _ => rfl
  | _ :: _, [] => rfl
  | x :: xs, y :: ys => by simp [zipD, zipD_map f g xs ys]
/-- a comprehension by what it makes of each item -/
theorem compL_map {α : Type} {bind : D → Option St} {f : St → M Bool} {g : St → M D} (enc : α → D) (h : α → D) (p : α → Bool) : ∀ (xs : List α),
    (∀ x ∈ xs, ∃ σ, bind (enc x) = some σ ∧ f σ = pure (p x) ∧ (p x = true → g σ = pure (h x))) → compL bind f g (xs.map enc) = pure ((xs.filter p).map h)
  | [], _ => rfl
  | x :: xs, H => by
    obtain ⟨σ, h1, h2, h3⟩ := H x (List.mem_cons_self ..)
    have ih := compL_map enc h p xs fun y hy => H y (List.mem_cons_of_mem _ hy)
    rw [List.map_cons]
    unfold compL
    rw [h1]
    show ((pure σ : M St) >>= _) = _
    rw [pure_bd, h2, pure_bd, ih]
    by_cases hp : p x = true
    · rw [if_pos hp, h3 hp, List.filter_cons_of_pos hp]; rfl
    · rw [if_neg hp, List.filter_cons_of_neg hp]
theorem compS_filter {α : Type} {items : M (List D)} {bind : D → Option St} {f : St → M Bool} {g : St → M D} (xs : List α) (enc : α → D) (h : α → D) (p : α → Bool)
    (hi : items = pure (xs.map enc)) (hl : xs.length ≤ sline) (H : ∀ x ∈ xs, ∃ σ, bind (enc x) = some σ ∧ f σ = pure (p x) ∧ (p x = true → g σ = pure (h x))) :
    compS items bind f g = pure (.list ((xs.filter p).map h)) := by
  unfold compS
  rw [hi, pure_bd, compL_map enc h p xs H, quiet_pure, pure_bd, if_pos]
  rw [List.length_map]
  exact Nat.le_trans (List.length_filter_le ..) hl
theorem compS_map {α : Type} {items : M (List D)} {bind : D → Option St} {g : St → M D} (xs : List α) (enc : α → D) (h : α → D)
    (hi : items = pure (xs.map enc)) (hl : xs.length ≤ sline) (H : ∀ x ∈ xs, ∃ σ, bind (enc x) = some σ ∧ g σ = pure (h x)) :
    compS items bind (fun _ => pure true) g = pure (.list (xs.map h)) := by
  have e := compS_filter (bind := bind) (f := fun _ => pure true) (g := g) xs enc h (fun _ => true) hi hl fun x hx => ?_
  · rw [e, List.filter_eq_self.mpr fun _ _ => rfl]
  · obtain ⟨σ, h1, h2⟩ := H x hx
    exact ⟨σ, h1, rfl, fun _ => h2⟩
/-! statements -/
@[simp] theorem sEnd_def (σ : St) : sEnd σ = pure (.nx σ) := of_eq_true (eq_self _)
@[simp] theorem nx1_some (σ : St) : nx1 (some σ) = pure (.nx σ) := of_eq_true (eq_self _)
@[simp] theorem sRaise_def (c : Str) (σ : St) : sRaise c σ = pure (.rz ⟨c, []⟩ σ) := of_eq_true (eq_self _)
@[simp] theorem sRet_pure (σ : St) (d : D) (fr : Bool) : sRet σ (pure d) fr = pure (.ret d (fr && isL d)) := of_eq_true (eq_self _)
@[simp] theorem sAsg_pure (σ : St) (d : D) (i : Nat) (fr : Bool) : sAsg σ (pure d) i fr = pure (.nx (σ.set i (some (d, fr && isL d)))) := of_eq_true (eq_self _)
@[simp] theorem sIf_pure (σ : St) (b : Bool) (m n : M Flow) : sIf σ (pure (.bool b)) m n = if b = true then m else n := of_eq_true (eq_self _)
@[simp] theorem sExp_pure (σ : St) (d : D) : sExp σ (pure d) = pure (.nx σ) := of_eq_true (eq_self _)
@[simp] theorem sExp_throw (σ : St) (x : Exc) : sExp σ (throwX x) = pure (.rz x σ) := of_eq_true (eq_self _)
@[simp] theorem sPar_def (σ : St) (ms : List (M D)) (is : List Nat) : sPar σ ms is = stE (evsS ms) σ fun ds => nx1 (setAll σ is ds) := of_eq_true (eq_self _)
@[simp] theorem setAll_nil (σ : St) : setAll σ [] [] = some σ := of_eq_true (eq_self _)
@[simp] theorem setAll_cons (σ : St) (i : Nat) (is : List Nat) (d : D) (ds : List D) : setAll σ (i :: is) (d :: ds) = setAll (σ.set i (some (d, false))) is ds := of_eq_true (eq_self _)
@[simp] theorem bindG_one (i : Nat) (σ : St) (d : D) : bindG (.one i) σ d = some (σ.set i (some (d, false))) := of_eq_true (eq_self _)
@[simp] theorem bindG_manyT (is : List Nat) (σ : St) (ds : List D) : bindG (.many is) σ (.tuple ds) = setAll σ is ds := of_eq_true (eq_self _)
@[simp] theorem bindG_manyL (is : List Nat) (σ : St) (ds : List D) : bindG (.many is) σ (.list ds) = setAll σ is ds := of_eq_true (eq_self _)
@[simp] theorem sTup_pure (σ : St) (d : D) (t : Tg) : sTup σ (pure d) t = nx1 (bindG t σ d) := of_eq_true (eq_self _)
@[simp] theorem sFor_pure (σ : St) (ds : List D) (t : Tg) (b : St → M Flow) : sFor σ (pure ds) t b = forL (bindG t) b ds σ := of_eq_true (eq_self _)
@[simp] theorem isL_int (i : Int) : isL (.int i) = false := of_eq_true (eq_self _)
@[simp] theorem isL_bool (i : Bool) : isL (.bool i) = false := of_eq_true (eq_self _)
@[simp] theorem isL_tuple (i : List D) : isL (.tuple i) = false := of_eq_true (eq_self _)
@[simp] theorem isL_list (i : List D) : isL (.list i) = true := of_eq_true (eq_self _)
@[simp] theorem isL_none : isL .none = false := of_eq_true (eq_self _)
@[simp] theorem isL_str (i : Str) : isL (.str i) = false := of_eq_true (eq_self _)
@[simp] theorem isL_dict (i : List (D × D)) : isL (.dict i) = dOk i := of_eq_true (eq_self _)
@[simp] theorem endF_ret (d : D) (o : Bool) : endF ⟨false, false⟩ (.ret d o) = pure d := by
  show (if (false = true ∧ o = false) ∨ (false = true ∧ flat d = false) then fail else pure d) = _
  simp
@[simp] theorem endF_nx (σ : St) : endF ⟨false, false⟩ (.nx σ) = pure .none := of_eq_true (eq_self _)
@[simp] theorem endF_rz (x : Exc) (σ : St) (fg : Flg) : endF fg (.rz x σ) = throwX x := of_eq_true (eq_self _)
@[simp] theorem runS_1 (fg : Flg) (n : Nat) (body : St → M Flow) (a0 : D) : runS fg 1 n body [a0] = (do let fl ← quiet (body (startN n [a0])); endF fg fl) := if_pos rfl
@[simp] theorem runS_2 (fg : Flg) (n : Nat) (body : St → M Flow) (a0 a1 : D) : runS fg 2 n body [a0, a1] = (do let fl ← quiet (body (startN n [a0, a1])); endF fg fl) := if_pos rfl
@[simp] theorem runS_3 (fg : Flg) (n : Nat) (body : St → M Flow) (a0 a1 a2 : D) : runS fg 3 n body [a0, a1, a2] = (do let fl ← quiet (body (startN n [a0, a1, a2])); endF fg fl) := if_pos rfl
@[simp] theorem runS_4 (fg : Flg) (n : Nat) (body : St → M Flow) (a0 a1 a2 a3 : D) : runS fg 4 n body [a0, a1, a2, a3] = (do let fl ← quiet (body (startN n [a0, a1, a2, a3])); endF fg fl) := if_pos rfl
@[simp] theorem runS_5 (fg : Flg) (n : Nat) (body : St → M Flow) (a0 a1 a2 a3 a4 : D) : runS fg 5 n body [a0, a1, a2, a3, a4] = (do let fl ← quiet (body (startN n [a0, a1, a2, a3, a4])); endF fg fl) := if_pos rfl
@[simp] theorem runS_6 (fg : Flg) (n : Nat) (body : St → M Flow) (a0 a1 a2 a3 a4 a5 : D) : runS fg 6 n body [a0, a1, a2, a3, a4, a5] = (do let fl ← quiet (body (startN n [a0, a1, a2, a3, a4, a5])); endF fg fl) := if_pos rfl
@[simp] theorem runS_0 (fg : Flg) (n : Nat) (body : St → M Flow) : runS fg 0 n body [] = (do let fl ← quiet (body (startN n [])); endF fg fl) := if_pos rfl
end Py

set_option Elab.async false
set_option linter.all false
set_option maxRecDepth 100000
namespace Py
open PySem
theorem evsS_cons (m : M D) (ms : List (M D)) : evsS (m :: ms) = (do let d ← m; let ds ← evsS ms; pure (d :: ds)) := rfl
/-! numbers that are drawn -/
def OkS (s : DS) : Prop := -1 ≤ s.at_ ∧ 0 ≤ s.seed ∧ s.seed < 2147483647
def tv (n : Int) (s : DS) : Int := (nextS s).cur % n
def ts (n : Int) (s : DS) : DS := { nextS s with cur := (nextS s).cur / n }
theorem OkS_ts {n : Int} {s : DS} (h : OkS s) : OkS (ts n s) := by
  obtain ⟨h1, h2, h3⟩ := h
  unfold ts nextS OkS
  split
  · split
    · exact ⟨by simp; omega, h2, h3⟩
    · exact ⟨by simp; omega, by simp; omega, by simp; omega⟩
  · exact ⟨h1, h2, h3⟩
theorem tv_lo {n : Int} {s : DS} (h : 0 < n) : 0 ≤ tv n s := Int.emod_nonneg _ (by omega)
theorem tv_hi {n : Int} {s : DS} (h : 0 < n) : tv n s < n := Int.emod_lt_of_pos _ h
theorem log2_small {n : Int} (h0 : 0 < n) (h : n < 2 ^ 64) : n.natAbs.log2 < 9000 := by
  have h1 : n.natAbs < 2 ^ 64 := by omega
  have := (Nat.log2_lt (by omega : n.natAbs ≠ 0)).mpr h1
  omega
theorem take_at {n : Int} {s : DS} (hs : OkS s) (h0 : 0 < n) (h1 : n < 2 ^ 64) : takeP [tok, .int n] s = .ok (.int (tv n s)) (ts n s) := by
  show take n s = _
  unfold take
  rw [if_pos ⟨h0, log2_small h0 h1, hs.1, hs.2.1, hs.2.2⟩]
  rfl
theorem take_callF {call : Str → List D → M D} {n : Int} {s : DS} (ht : call "_law_take" = takeP) (hs : OkS s) (h0 : 0 < n) (h1 : n < 2 ^ 64) :
    callF call "_law_take" [pure tok, pure (.int n)] s = .ok (.int (tv n s)) (ts n s) := by
  unfold callF
  rw [ht]
  simp only [evsS_pure, evsS_nil, pure_bd]
  rw [bd_at, take_at hs h0 h1]
  rfl
def callT (call : Str → List D → M D) (f : Str) (xs : List D) : M D := do
  let d ← call f xs
  if flat d = true then pure d else fail
theorem callF_eq (call : Str → List D → M D) (f : Str) (ms : List (M D)) : callF call f ms = (evsS ms >>= callT call f) := rfl
theorem take_T {call : Str → List D → M D} {n : Int} {s : DS} (ht : call "_law_take" = takeP) (hs : OkS s) (h0 : 0 < n) (h1 : n < 2 ^ 64) :
    callT call "_law_take" [tok, .int n] s = .ok (.int (tv n s)) (ts n s) := by
  unfold callT
  rw [ht, bd_at, take_at hs h0 h1]
  rfl
/-- what a run comes to -/
def Res.sat {α : Type} : Res α → (α → DS → Prop) → Prop
  | .ok a s, Q => Q a s
  | .exc _ _, _ => False
  | .fail, _ => False
section
variable {α β : Type}
@[simp] theorem sat_ok (a : α) (s : DS) (Q : α → DS → Prop) : Res.sat (.ok a s) Q = Q a s := of_eq_true (eq_self _)
theorem Res.sat.ex {r : Res α} {Q : α → DS → Prop} (h : r.sat Q) : ∃ a s, r = .ok a s ∧ Q a s := by
  cases r with
  | ok a s => exact ⟨a, s, rfl, h⟩
  | exc => exact h.elim
  | fail => exact h.elim
theorem Res.sat.mono {r : Res α} {Q Q' : α → DS → Prop} (h : r.sat Q) (hq : ∀ a s, Q a s → Q' a s) : r.sat Q' := by
  obtain ⟨a, s, rfl, h⟩ := h.ex
  exact hq _ _ h
theorem Res.sat.bnd {r : Res α} {k : α → M β} {Q : β → DS → Prop} (h : r.sat fun a s => (k a s).sat Q) : (r.bnd k).sat Q := by
  obtain ⟨a, s, rfl, h⟩ := h.ex
  exact h
theorem Res.sat.stb {r : Res α} {σ : St} {k : α → M Flow} {Q : Flow → DS → Prop} (h : r.sat fun a s => (k a s).sat Q) : (r.stb σ k).sat Q := by
  obtain ⟨a, s, rfl, h⟩ := h.ex
  exact h
/-- goes on -/
def NC (P : St → DS → Prop) : Flow → DS → Prop
  | .nx σ, s => P σ s
  | .ct σ, s => P σ s
  | _, _ => False
@[simp] theorem NC_nx (P : St → DS → Prop) (σ : St) (s : DS) : NC P (.nx σ) s = P σ s := of_eq_true (eq_self _)
@[simp] theorem NC_ct (P : St → DS → Prop) (σ : St) (s : DS) : NC P (.ct σ) s = P σ s := of_eq_true (eq_self _)
def NX (P : St → DS → Prop) : Flow → DS → Prop
  | .nx σ, s => P σ s
  | _, _ => False
@[simp] theorem NX_nx (P : St → DS → Prop) (σ : St) (s : DS) : NX P (.nx σ) s = P σ s := of_eq_true (eq_self _)
theorem Res.sat.fl {r : Res Flow} {k : St → M Flow} {P : St → DS → Prop} {Q : Flow → DS → Prop} (h : r.sat (NX P)) (hk : ∀ σ s, P σ s → (k σ s).sat Q) : (r.fl k).sat Q := by
  obtain ⟨a, s, rfl, h⟩ := h.ex
  cases a with
  | nx σ => exact hk σ s h
  | _ => exact h.elim
end
/-- a loop by what holds before each turn -/
theorem forL_at {α : Type} (enc : α → D) {bind : St → D → Option St} {b : St → M Flow} (xs : List α) (I : Nat → St → DS → Prop)
    (H : ∀ k x σ s, xs[k]? = some x → I k σ s → ∃ σ1, bind σ (enc x) = some σ1 ∧ (b σ1 s).sat (NC (I (k + 1)))) {σ : St} {s : DS} (h0 : I 0 σ s) :
    (forL bind b (xs.map enc) σ s).sat (NX (I xs.length)) := by
  induction xs generalizing I σ s with
  | nil => exact h0
  | cons x xs ih =>
    obtain ⟨σ1, h1, h2⟩ := H 0 x σ s rfl h0
    obtain ⟨fl, s2, h2, h3⟩ := h2.ex
    rw [List.map_cons]
    unfold forL
    rw [h1]
    simp only
    rw [bd_at, h2]
    cases fl with
    | nx σ2 => exact ih (fun k => I (k + 1)) (fun k y σ s hy hI => H (k + 1) y σ s (by simpa using hy) hI) h3
    | ct σ2 => exact ih (fun k => I (k + 1)) (fun k y σ s hy hI => H (k + 1) y σ s (by simpa using hy) hI) h3
    | _ => exact h3.elim
/-- a comprehension over draws -/
theorem compL_at {α : Type} (enc : α → D) {bind : D → Option St} {g : St → M D} (R : α → D → Prop) : ∀ (xs : List α)
    (_ : ∀ x ∈ xs, ∀ s, OkS s → ∃ σ, bind (enc x) = some σ ∧ (g σ s).sat fun y s' => R x y ∧ OkS s') {s : DS} (_ : OkS s),
    (compL bind (fun _ => pure true) g (xs.map enc) s).sat fun ys s' => ys.length = xs.length ∧ (∀ (i : Nat) x y, xs[i]? = some x → ys[i]? = some y → R x y) ∧ OkS s'
  | [], _, s, hs => ⟨rfl, fun i x y h => by simp at h, hs⟩
  | x :: xs, H, s, hs => by
    obtain ⟨σ, h1, h2⟩ := H x (List.mem_cons_self ..) s hs
    obtain ⟨y, s1, h2, h3, h4⟩ := h2.ex
    obtain ⟨ys, s', h5, h6, h7, h8⟩ := (compL_at enc R xs (fun z hz => H z (List.mem_cons_of_mem _ hz)) h4).ex
    rw [List.map_cons]
    unfold compL
    rw [h1]
    show Res.sat (((pure σ : M St) >>= _) s) _
    rw [pure_bd, pure_bd, if_pos rfl, bd_at, h2, bnd_ok, bd_at, h5]
    refine ⟨by simp [h6], fun i u v hu hv => ?_, h8⟩
    cases i with
    | zero => simp at hu hv; subst hu; subst hv; exact h3
    | succ i => exact h7 i u v (by simpa using hu) (by simpa using hv)
theorem compS_at {α : Type} {items : M (List D)} (enc : α → D) {bind : D → Option St} {g : St → M D} (R : α → D → Prop) (xs : List α)
    (hi : items = pure (xs.map enc)) (hl : xs.length ≤ sline)
    (H : ∀ x ∈ xs, ∀ s, OkS s → ∃ σ, bind (enc x) = some σ ∧ (g σ s).sat fun y s' => R x y ∧ OkS s') {s : DS} (hs : OkS s) :
    (compS items bind (fun _ => pure true) g s).sat fun d s' => ∃ ys, d = .list ys ∧ ys.length = xs.length ∧ (∀ (i : Nat) x y, xs[i]? = some x → ys[i]? = some y → R x y) ∧ OkS s' := by
  obtain ⟨ys, s', h1, h2, h3, h4⟩ := (compL_at enc R xs H hs).ex
  unfold compS
  rw [hi, pure_bd, bd_at]
  have : quiet (compL bind (fun _ => pure true) g (xs.map enc)) s = .ok ys s' := by
    unfold quiet
    rw [h1]
  rw [this, bnd_ok, if_pos (by omega)]
  exact ⟨ys, rfl, h2, h3, h4⟩
def Res.qt {α : Type} : Res α → Res α
  | .ok a s => .ok a s
  | _ => .fail
@[simp] theorem qt_ok {α : Type} (a : α) (s : DS) : Res.qt (.ok a s) = .ok a s := of_eq_true (eq_self _)
theorem quiet_at {α : Type} (m : M α) (s : DS) : quiet m s = (m s).qt := by
  unfold quiet Res.qt
  cases m s <;> rfl
theorem Res.sat.qt {α : Type} {r : Res α} {Q : α → DS → Prop} (h : r.sat Q) : r.qt.sat Q := by
  obtain ⟨a, s, rfl, h⟩ := h.ex
  exact h
/-! sizes -/
def Bt (n : Nat) (i : Int) : Prop := i.natAbs < 2 ^ n
theorem Bt.mono {n m : Nat} {i : Int} (h : Bt n i) (hm : n ≤ m) : Bt m i := Nat.lt_of_lt_of_le h (Nat.pow_le_pow_right (by decide) hm)
theorem Bt.mul {n m : Nat} {i j : Int} (h : Bt n i) (h' : Bt m j) : Bt (n + m) (i * j) := by
  unfold Bt at *
  rw [Int.natAbs_mul, Nat.pow_add]
  exact Nat.mul_lt_mul'' h h'
theorem Bt.add {n : Nat} {i j : Int} (h : Bt n i) (h' : Bt n j) : Bt (n + 1) (i + j) := by
  unfold Bt at *
  rw [Nat.pow_succ]
  omega
theorem Bt.sub {n : Nat} {i j : Int} (h : Bt n i) (h' : Bt n j) : Bt (n + 1) (i - j) := by
  unfold Bt at *
  rw [Nat.pow_succ]
  omega
theorem Bt.neg {n : Nat} {i : Int} (h : Bt n i) : Bt n (-i) := by
  unfold Bt at *
  omega
theorem Bt.log {n : Nat} {i : Int} (h : Bt n i) : i.natAbs.log2 ≤ n := by
  by_cases h0 : i.natAbs = 0
  · rw [h0]; simp
  · exact Nat.le_of_lt ((Nat.log2_lt h0).mpr h)
theorem Bt.of_lt {n : Nat} {i : Int} (h : -(2 ^ n) < i) (h' : i < 2 ^ n) : Bt n i := by
  unfold Bt
  have : ((2 ^ n : Nat) : Int) = 2 ^ n := by simp
  omega
theorem Bt.list {n : Nat} : ∀ (xs : List Int) (k : Nat), xs.length ≤ k → (∀ x ∈ xs, Bt n x) → xs.sum.natAbs ≤ k * 2 ^ n
  | [], k, _, _ => by simp
  | x :: xs, 0, h, _ => by simp at h
  | x :: xs, k + 1, h, H => by
    have ih := Bt.list xs k (by simpa using h) fun y hy => H y (List.mem_cons_of_mem _ hy)
    have h1 : x.natAbs < 2 ^ n := H x (List.mem_cons_self ..)
    rw [List.sum_cons, Nat.add_mul, Nat.one_mul]
    omega
theorem Bt.sum {n m : Nat} {xs : List Int} (hl : xs.length < 2 ^ m) (H : ∀ x ∈ xs, Bt n x) : Bt (n + m) xs.sum := by
  have h := Bt.list xs xs.length (Nat.le_refl _) H
  unfold Bt
  rw [Nat.pow_add]
  have h2 : 0 < 2 ^ n := Nat.two_pow_pos n
  have : xs.length * 2 ^ n < 2 ^ m * 2 ^ n := Nat.mul_lt_mul_of_pos_right hl h2
  rw [Nat.mul_comm (2 ^ n)]
  omega
theorem bmul {n m : Nat} {i j : Int} (h : Bt n i) (h' : Bt m j) (hm : n + m < 1000000 := by omega) : binop .Mult (.int i) (.int j) = pure (.int (i * j)) := binop_mul (by have := h.log; have := h'.log; omega)
theorem bdiv {n : Nat} {i j : Int} (h : 0 < j) (h' : Bt n j) (hm : n < 9000 := by omega) : binop .FloorDiv (.int i) (.int j) = pure (.int (i / j)) := binop_div h (by have := h'.log; omega)
theorem bdivN {n : Nat} {i j : Int} (h : j < 0) (h' : Bt n j) (hm : n < 9000 := by omega) : binop .FloorDiv (.int i) (.int j) = pure (.int (i.fdiv j)) := by
  show (if 0 < j ∧ j.natAbs.log2 < 9000 then _ else _) = _
  rw [if_neg (by omega), if_pos ⟨h, by have := h'.log; omega⟩]
/-! values -/
mutual
/-- no dict within -/
def nod : D → Bool
  | .dict _ => false
  | .tuple ds => nods ds
  | .list ds => nods ds
  | _ => true
def nods : List D → Bool
  | [] => true
  | d :: ds => nod d && nods ds
end
@[simp] theorem nods_nil : nods [] = true := by unfold nods; rfl
@[simp] theorem nods_cons (d : D) (ds : List D) : nods (d :: ds) = (nod d && nods ds) := by rw [nods]
@[simp] theorem nod_tuple (ds : List D) : nod (.tuple ds) = nods ds := by rw [nod]
@[simp] theorem nod_list (ds : List D) : nod (.list ds) = nods ds := by rw [nod]
@[simp] theorem nod_int (i : Int) : nod (.int i) = true := by simp [nod]
@[simp] theorem nod_bool (i : Bool) : nod (.bool i) = true := by simp [nod]
@[simp] theorem nod_str (i : Str) : nod (.str i) = true := by simp [nod]
@[simp] theorem nod_none : nod .none = true := by simp [nod]
@[simp] theorem nods_append : ∀ a b : List D, nods (a ++ b) = (nods a && nods b)
  | [], b => by simp
  | x :: a, b => by simp [nods_append a b, Bool.and_assoc]
theorem nods_all : ∀ ds : List D, nods ds = ds.all nod
  | [] => by simp
  | d :: ds => by simp [nods_all ds]
@[simp] theorem nods_map {α : Type} (f : α → D) (xs : List α) (h : ∀ x, nod (f x) = true) : nods (xs.map f) = true := by
  rw [nods_all, List.all_eq_true]
  intro d hd
  obtain ⟨x, _, rfl⟩ := List.mem_map.mp hd
  exact h x
@[simp] theorem nods_ints (xs : List Int) : nods (xs.map PyData.int) = true := nods_map _ _ fun _ => by simp
@[simp] theorem nods_rep (n : Nat) (d : D) (h : nod d = true) : nods (List.replicate n d) = true := by
  rw [nods_all, List.all_eq_true]
  intro e he
  rw [List.eq_of_mem_replicate he]
  exact h
theorem nods_mem {ds : List D} (h : nods ds = true) {d : D} (hd : d ∈ ds) : nod d = true := by
  rw [nods_all, List.all_eq_true] at h
  exact h d hd
def noD : D → Bool
  | .dict _ => false
  | _ => true
theorem nod_noD {d : D} (h : nod d = true) : noD d = true := by
  cases d with
  | dict => rw [nod] at h; exact h
  | _ => rfl
/-! indices -/
theorem atI_nn {α : Type} {xs : List α} {i : Int} (h : 0 ≤ i) : L2.atI xs i = xs[i.toNat]? := by
  unfold L2.atI L2.ixN
  rw [if_pos h]
  split
  · rfl
  · rw [List.getElem?_eq_none (by omega)]
    rfl
theorem atI_neg1 {α : Type} (xs : List α) : L2.atI xs (-1) = xs.getLast? := by
  unfold L2.atI L2.ixN
  rw [if_neg (by decide), List.getLast?_eq_getElem?]
  split
  · show xs[_]? = _
    congr 1
    omega
  · have : xs.length = 0 := by omega
    simp [List.eq_nil_of_length_eq_zero this]
theorem getT_nat {ds : List D} {i : Nat} {d : D} (h : ds[i]? = some d) : getD' (.tuple ds) (.int i) = pure d := by
  show (match L2.atI ds i with | some d => pure d | none => fail) = _
  rw [atI_nn (by omega), Int.toNat_natCast, h]
theorem getL_nat {ds : List D} {i : Nat} {d : D} (h : ds[i]? = some d) : getD' (.list ds) (.int i) = pure d := by
  show (match L2.atI ds i with | some d => pure d | none => fail) = _
  rw [atI_nn (by omega), Int.toNat_natCast, h]
theorem getT_last {ds : List D} {d : D} (h : ds.getLast? = some d) : getD' (.tuple ds) (.int (-1)) = pure d := by
  show (match L2.atI ds (-1) with | some d => pure d | none => fail) = _
  rw [atI_neg1, h]
theorem getL_last {ds : List D} {d : D} (h : ds.getLast? = some d) : getD' (.list ds) (.int (-1)) = pure d := by
  show (match L2.atI ds (-1) with | some d => pure d | none => fail) = _
  rw [atI_neg1, h]
theorem in62_nat {n : Nat} (h : n < 2 ^ 62) : in62 (n : Int) = true := by
  unfold in62
  simp
  omega
theorem in62_of {n : Int} (h : -(2 ^ 62) ≤ n) (h' : n < 2 ^ 62) : in62 n = true := by
  unfold in62
  simp
  omega
theorem rangeD_eq (lo : Int) (n : Nat) : rangeD lo n = (List.range n).map fun (i : Nat) => PyData.int (lo + (i : Int)) := rfl
theorem ixN_neg1 {n : Nat} (h : 0 < n) : L2.ixN n (-1) = some (n - 1) := by
  unfold L2.ixN
  rw [if_neg (by decide), if_pos (by omega)]
  congr 1
  omega
theorem ixN_nn {n : Nat} {i : Int} (h : 0 ≤ i) (h' : i < n) : L2.ixN n i = some i.toNat := by
  unfold L2.ixN
  rw [if_pos h, if_pos h']
theorem ixN_nat {n i : Nat} (h : i < n) : L2.ixN n (i : Int) = some i := by
  rw [ixN_nn (by omega) (by omega)]
  rfl
theorem snoc_of {α : Type} {xs : List α} (h : 1 ≤ xs.length) : ∃ ys z, xs = ys ++ [z] :=
  ⟨xs.dropLast, xs.getLast (by intro e; subst e; simp at h), (List.dropLast_concat_getLast _).symm⟩
@[simp] theorem getL_snoc (ds : List D) (d : D) : getD' (.list (ds ++ [d])) (.int (-1)) = pure d := getL_last (by simp)
@[simp] theorem getT_snoc (ds : List D) (d : D) : getD' (.tuple (ds ++ [d])) (.int (-1)) = pure d := getT_last (by simp)
theorem set_snoc {α : Type} (xs : List α) (a b : α) : (xs ++ [a]).set xs.length b = xs ++ [b] := by
  rw [List.set_append_right _ _ (Nat.le_refl _)]
  simp
/-! pieces -/
theorem cut_all {α : Type} (xs : List α) : cut xs none none = xs := by
  unfold cut
  rw [HT.sIx_none, HT.sIx_none]
  simp
theorem cut_to {α : Type} (xs : List α) {k : Int} (h : 0 ≤ k) : cut xs none (some k) = xs.take k.toNat := by
  unfold cut
  rw [HT.sIx_none]
  have : HT.sIx xs.length xs.length (some k) = min k.toNat xs.length := by
    show (if k < 0 then _ else _) = _
    rw [if_neg (by omega)]
  rw [this, Nat.sub_zero, List.drop_zero, List.take_eq_take_iff]
  omega
theorem cut_from {α : Type} (xs : List α) {k : Int} (h : 0 ≤ k) : cut xs (some k) none = xs.drop k.toNat := by
  unfold cut
  have : HT.sIx xs.length 0 (some k) = min k.toNat xs.length := by
    show (if k < 0 then _ else _) = _
    rw [if_neg (by omega)]
  rw [this, HT.sIx_none, List.take_of_length_le (by simp)]
  by_cases hk : k.toNat ≤ xs.length
  · rw [Nat.min_eq_left hk]
  · rw [Nat.min_eq_right (by omega), List.drop_of_length_le (by omega), List.drop_of_length_le (by omega)]
theorem cut_neg1 {α : Type} (xs : List α) : cut xs none (some (-1)) = xs.dropLast := by
  unfold cut
  have : HT.sIx xs.length xs.length (some (-1)) = xs.length - 1 := by
    show (if (-1 : Int) < 0 then (-1 + (xs.length : Int)).toNat else min (-1 : Int).toNat xs.length) = _
    rw [if_pos (by decide)]
    omega
  rw [this, HT.sIx_none, List.dropLast_eq_take]
  simp
@[simp] theorem getS_T (ds : List D) (lo hi : Option Int) : getS (.tuple ds) lo hi = pure (.tuple (cut ds lo hi)) := of_eq_true (eq_self _)
@[simp] theorem getS_L (ds : List D) (lo hi : Option Int) : getS (.list ds) lo hi = pure (.list (cut ds lo hi)) := of_eq_true (eq_self _)
theorem flat_rep {α : Type} (d : α) : ∀ n : Nat, (List.replicate n [d]).flatten = List.replicate n d
  | 0 => rfl
  | n + 1 => by rw [List.replicate_succ, List.replicate_succ, List.flatten_cons, flat_rep d n]; rfl
theorem binop_mulT {d : D} {k : Int} (h : 2 ≤ k) (h' : k ≤ 1000) : binop .Mult (.tuple [d]) (.int k) = pure (.tuple (List.replicate k.toNat d)) := by
  show (if [d] ≠ [] ∧ 2 ≤ k ∧ k ≤ 1000 ∧ [d].length ≤ 1000 then _ else _) = _
  rw [if_pos ⟨by simp, h, h', by simp⟩, flat_rep]
theorem binop_mulT1 (d : D) : binop .Mult (.tuple [d]) (.int 1) = pure (.tuple [d]) := by
  have e : binop .Mult (.tuple [d]) (.int 1) = if [d] ≠ [] ∧ (2 : Int) ≤ 1 ∧ (1 : Int) ≤ 1000 ∧ [d].length ≤ 1000 then pure (.tuple (List.replicate (1 : Int).toNat [d]).flatten) else if [d] ≠ [] ∧ (1 : Int) = 1 then pure (.tuple [d]) else fail := rfl
  rw [e, if_neg (by omega), if_pos ⟨by simp, rfl⟩]
theorem binop_mulTN {d : D} {k : Int} (h : 1 ≤ k) (h' : k ≤ 1000) : binop .Mult (.tuple [d]) (.int k) = pure (.tuple (List.replicate k.toNat d)) := by
  by_cases h2 : 2 ≤ k
  · exact binop_mulT h2 h'
  · have : k = 1 := by omega
    subst this
    exact binop_mulT1 d
theorem binop_mulL {d : D} {k : Int} (h : -1000000 ≤ k) (h' : k ≤ 1000000) : binop .Mult (.list [d]) (.int k) = pure (.list (List.replicate k.toNat d)) := by
  show (if k < 2 ^ 62 ∧ -(2 ^ 62) ≤ k ∧ [d].length * k.toNat ≤ sline then _ else _) = _
  rw [if_pos ⟨by omega, by omega, by unfold sline; simp; omega⟩, flat_rep]
/-- one of a written list -/
theorem pick {ds : List D} {i : Int} (h : 0 ≤ i) (h' : i < ds.length) : ∃ d ∈ ds, getD' (.list ds) (.int i) = pure d := by
  have hi : i.toNat < ds.length := by omega
  refine ⟨ds[i.toNat], List.getElem_mem hi, ?_⟩
  have := getL_nat (List.getElem?_eq_getElem hi)
  rwa [Int.toNat_of_nonneg h] at this
def sel (ds : List D) (i : Int) : D := ds.getD i.toNat .none
theorem sel_mem {ds : List D} {i : Int} (h : 0 ≤ i) (h' : i < ds.length) : sel ds i ∈ ds := by
  unfold sel
  have hi : i.toNat < ds.length := by omega
  rw [List.getD_eq_getElem?_getD, List.getElem?_eq_getElem hi]
  exact List.getElem_mem hi
theorem getL_sel {ds : List D} {i : Int} (h : 0 ≤ i) (h' : i < ds.length) : getD' (.list ds) (.int i) = pure (sel ds i) := by
  have hi : i.toNat < ds.length := by omega
  have := getL_nat (List.getElem?_eq_getElem hi)
  rw [Int.toNat_of_nonneg h] at this
  rw [this]
  unfold sel
  rw [List.getD_eq_getElem?_getD, List.getElem?_eq_getElem hi]
  rfl
theorem sel_all {P : D → Prop} {ds : List D} {i : Int} (h : 0 ≤ i) (h' : i < ds.length) (H : ∀ d ∈ ds, P d) : P (sel ds i) := H _ (sel_mem h h')
/-! what may be compared -/
def fine (n : Nat) (d : D) : Bool := d.canLay0 && decide (d.depth ≤ n)
theorem shaped_fine (d : D) : SeqAt.shaped d = fine 64 d := rfl
@[simp] theorem fine_int (n : Nat) (i : Int) : fine n (.int i) = true := by simp [fine, PyData.canLay0, PyData.depth]
@[simp] theorem fine_bool (n : Nat) (i : Bool) : fine n (.bool i) = true := by simp [fine, PyData.canLay0, PyData.depth]
@[simp] theorem fine_none (n : Nat) : fine n .none = true := by simp [fine, PyData.canLay0, PyData.depth]
theorem fine_strE (n : Nat) (x : Str) : fine n (.str x) = PyData.canLay0 (.str x) := by simp [fine, PyData.depth]
theorem fines : ∀ (n : Nat) (ds : List D), (PyData.canLayAll0 ds && decide (PyData.depthAll ds ≤ n)) = ds.all (fine n)
  | n, [] => by simp [PyData.canLayAll0, PyData.depthAll]
  | n, d :: ds => by
    have ih := fines n ds
    rw [List.all_cons, ← ih]
    simp [PyData.canLayAll0, PyData.depthAll, fine]
    have hm : decide (max d.depth (PyData.depthAll ds) ≤ n) = (decide (d.depth ≤ n) && decide (PyData.depthAll ds ≤ n)) := by
      simp [Nat.max_le]
    try rw [hm]
    cases d.canLay0 <;> cases PyData.canLayAll0 ds <;> simp [Nat.max_le]
@[simp] theorem fine_list (n : Nat) (ds : List D) : fine (n + 1) (.list ds) = ds.all (fine n) := by
  rw [← fines]
  simp [fine, PyData.canLay0, PyData.depth]
@[simp] theorem fine_tuple (n : Nat) (ds : List D) : fine (n + 1) (.tuple ds) = ds.all (fine n) := by
  rw [← fines]
  simp [fine, PyData.canLay0, PyData.depth]
theorem all_map_int (n : Nat) (xs : List Int) : (xs.map PyData.int).all (fine n) = true := by simp [List.all_map, Function.comp_def]
mutual
theorem eqv_self : ∀ d : D, d.canLay0 = true → PyData.eqv d d = true
  | .none, _ => by simp [PyData.eqv]
  | .bool _, _ => by simp [PyData.eqv]
  | .int _, _ => by simp [PyData.eqv]
  | .str _, _ => by simp [PyData.eqv]
  | .list ds, h => by
    simp [PyData.eqv]
    exact eqvAll_self ds (by simpa [PyData.canLay0] using h)
  | .tuple ds, h => by
    simp [PyData.eqv]
    exact eqvAll_self ds (by simpa [PyData.canLay0] using h)
  | .dict _, h => by simp [PyData.canLay0] at h
theorem eqvAll_self : ∀ ds : List D, PyData.canLayAll0 ds = true → PyData.eqvAll ds ds = true
  | [], _ => by simp [PyData.eqvAll]
  | d :: ds, h => by
    have h' : d.canLay0 = true ∧ PyData.canLayAll0 ds = true := by simpa [PyData.canLayAll0] using h
    simp [PyData.eqvAll, eqv_self d h'.1, eqvAll_self ds h'.2]
end
theorem eqD_self {d : D} (h : fine 64 d = true) : eqD d d = pure true := by
  have h1 : d.canLay0 = true := by
    unfold fine at h
    exact (Bool.and_eq_true_iff.mp h).1
  unfold eqD
  rw [shaped_fine, if_pos ⟨h, h⟩, eqv_self d h1]
theorem eqD_def {x y : D} (h : fine 64 x = true) (h' : fine 64 y = true) : eqD x y = pure (PyData.eqv x y) := by
  unfold eqD
  rw [shaped_fine, shaped_fine, if_pos ⟨h, h'⟩]
theorem eqvAll_nil (ds : List D) : PyData.eqvAll ds [] = ds.isEmpty := by cases ds <;> simp [PyData.eqvAll]
theorem eqvAll_ints : ∀ xs ys : List Int, PyData.eqvAll (xs.map .int) (ys.map .int) = decide (xs = ys)
  | [], [] => by simp [PyData.eqvAll]
  | x :: xs, [] => by simp [PyData.eqvAll]
  | [], y :: ys => by simp [PyData.eqvAll]
  | x :: xs, y :: ys => by
    simp [PyData.eqvAll, eqvAll_ints xs ys, PyData.eqv]
    by_cases h : x = y <;> simp [h]
theorem eqD_nil {ds : List D} (h : ds.all (fine 63) = true) : eqD (.list ds) (.list []) = pure ds.isEmpty := by
  rw [eqD_def (by simpa using h) (by simp)]
  simp [PyData.eqv, eqvAll_nil]
theorem eqD_lis (xs ys : List Int) : eqD (lisD xs) (lisD ys) = pure (decide (xs = ys)) := by
  rw [eqD_def (by rw [fine_list]; exact all_map_int _ _) (by rw [fine_list]; exact all_map_int _ _)]
  simp [PyData.eqv, eqvAll_ints]
theorem eqD_tup (xs ys : List Int) : eqD (tupD xs) (tupD ys) = pure (decide (xs = ys)) := by
  rw [eqD_def (by rw [fine_tuple]; exact all_map_int _ _) (by rw [fine_tuple]; exact all_map_int _ _)]
  simp [PyData.eqv, eqvAll_ints]
theorem eqD_str {a b : Str} (h : PyData.canLay0 (.str a) = true) (h' : PyData.canLay0 (.str b) = true) : eqD (.str a) (.str b) = pure (a == b) := by
  rw [eqD_def (by rw [fine_strE]; exact h) (by rw [fine_strE]; exact h')]
  simp [PyData.eqv]
/-! items of rows of numbers -/
def ix (xs : List Int) (i : Int) : Int := xs.getD i.toNat 0
theorem ix_get {xs : List Int} {i : Int} (h : 0 ≤ i) (h' : i < xs.length) : xs[i.toNat]? = some (ix xs i) := by
  have hi : i.toNat < xs.length := by omega
  unfold ix
  rw [List.getD_eq_getElem?_getD, List.getElem?_eq_getElem hi]
  rfl
theorem getT_ix {xs : List Int} {i : Int} (h : 0 ≤ i) (h' : i < xs.length) : getD' (.tuple (xs.map .int)) (.int i) = pure (.int (ix xs i)) := by
  have := getT_nat (ds := xs.map .int) (i := i.toNat) (d := .int (ix xs i)) (by rw [List.getElem?_map, ix_get h h']; rfl)
  rwa [Int.toNat_of_nonneg h] at this
theorem getL_ix {xs : List Int} {i : Int} (h : 0 ≤ i) (h' : i < xs.length) : getD' (.list (xs.map .int)) (.int i) = pure (.int (ix xs i)) := by
  have := getL_nat (ds := xs.map .int) (i := i.toNat) (d := .int (ix xs i)) (by rw [List.getElem?_map, ix_get h h']; rfl)
  rwa [Int.toNat_of_nonneg h] at this
theorem ix_mem {xs : List Int} {i : Int} (h : 0 ≤ i) (h' : i < xs.length) : ix xs i ∈ xs := List.mem_of_getElem? (ix_get h h')
theorem ix_map {α : Type} (f : α → Int) (xs : List α) (i : Nat) (h : i < xs.length) : ix (xs.map f) i = f xs[i] := by
  unfold ix
  rw [List.getD_eq_getElem?_getD, Int.toNat_natCast, List.getElem?_map, List.getElem?_eq_getElem h]
  rfl
/-! isinstance -/
@[simp] theorem isi_none_int : isiS (pure .none) "int" = pure (.bool false) := of_eq_true (eq_self _)
@[simp] theorem isi_none_bool : isiS (pure .none) "bool" = pure (.bool false) := of_eq_true (eq_self _)
@[simp] theorem isi_none_str : isiS (pure .none) "str" = pure (.bool false) := of_eq_true (eq_self _)
@[simp] theorem isi_none_tuple : isiS (pure .none) "tuple" = pure (.bool false) := of_eq_true (eq_self _)
@[simp] theorem isi_none_list : isiS (pure .none) "list" = pure (.bool false) := of_eq_true (eq_self _)
@[simp] theorem isi_bool_int (b : Bool) : isiS (pure (.bool b)) "int" = pure (.bool true) := of_eq_true (eq_self _)
@[simp] theorem isi_bool_bool (b : Bool) : isiS (pure (.bool b)) "bool" = pure (.bool true) := of_eq_true (eq_self _)
@[simp] theorem isi_bool_str (b : Bool) : isiS (pure (.bool b)) "str" = pure (.bool false) := of_eq_true (eq_self _)
@[simp] theorem isi_bool_tuple (b : Bool) : isiS (pure (.bool b)) "tuple" = pure (.bool false) := of_eq_true (eq_self _)
@[simp] theorem isi_bool_list (b : Bool) : isiS (pure (.bool b)) "list" = pure (.bool false) := of_eq_true (eq_self _)
@[simp] theorem isi_int_int (i : Int) : isiS (pure (.int i)) "int" = pure (.bool true) := of_eq_true (eq_self _)
@[simp] theorem isi_int_bool (i : Int) : isiS (pure (.int i)) "bool" = pure (.bool false) := of_eq_true (eq_self _)
@[simp] theorem isi_int_str (i : Int) : isiS (pure (.int i)) "str" = pure (.bool false) := of_eq_true (eq_self _)
@[simp] theorem isi_int_tuple (i : Int) : isiS (pure (.int i)) "tuple" = pure (.bool false) := of_eq_true (eq_self _)
@[simp] theorem isi_int_list (i : Int) : isiS (pure (.int i)) "list" = pure (.bool false) := of_eq_true (eq_self _)
@[simp] theorem isi_str_int (x : Str) : isiS (pure (.str x)) "int" = pure (.bool false) := of_eq_true (eq_self _)
@[simp] theorem isi_str_bool (x : Str) : isiS (pure (.str x)) "bool" = pure (.bool false) := of_eq_true (eq_self _)
@[simp] theorem isi_str_str (x : Str) : isiS (pure (.str x)) "str" = pure (.bool true) := of_eq_true (eq_self _)
@[simp] theorem isi_str_tuple (x : Str) : isiS (pure (.str x)) "tuple" = pure (.bool false) := of_eq_true (eq_self _)
@[simp] theorem isi_str_list (x : Str) : isiS (pure (.str x)) "list" = pure (.bool false) := of_eq_true (eq_self _)
@[simp] theorem isi_tuple_int (ds : List D) : isiS (pure (.tuple ds)) "int" = pure (.bool false) := of_eq_true (eq_self _)
@[simp] theorem isi_tuple_bool (ds : List D) : isiS (pure (.tuple ds)) "bool" = pure (.bool false) := of_eq_true (eq_self _)
@[simp] theorem isi_tuple_str (ds : List D) : isiS (pure (.tuple ds)) "str" = pure (.bool false) := of_eq_true (eq_self _)
@[simp] theorem isi_tuple_tuple (ds : List D) : isiS (pure (.tuple ds)) "tuple" = pure (.bool true) := of_eq_true (eq_self _)
@[simp] theorem isi_tuple_list (ds : List D) : isiS (pure (.tuple ds)) "list" = pure (.bool false) := of_eq_true (eq_self _)
@[simp] theorem isi_list_int (ds : List D) : isiS (pure (.list ds)) "int" = pure (.bool false) := of_eq_true (eq_self _)
@[simp] theorem isi_list_bool (ds : List D) : isiS (pure (.list ds)) "bool" = pure (.bool false) := of_eq_true (eq_self _)
@[simp] theorem isi_list_str (ds : List D) : isiS (pure (.list ds)) "str" = pure (.bool false) := of_eq_true (eq_self _)
@[simp] theorem isi_list_tuple (ds : List D) : isiS (pure (.list ds)) "tuple" = pure (.bool false) := of_eq_true (eq_self _)
@[simp] theorem isi_list_list (ds : List D) : isiS (pure (.list ds)) "list" = pure (.bool true) := of_eq_true (eq_self _)
theorem sl {n : Nat} (h : n ≤ 10000) : n ≤ sline := Nat.le_trans h (by decide)
theorem sl' {n : Nat} (h : n ≤ 10000) : n < sline := Nat.lt_of_le_of_lt h (by decide)
@[simp] theorem bi_sum_map {α : Type} (f : α → Int) (xs : List α) : bi "sum" [.list (xs.map fun x => .int (f x))] = pure (.int (xs.map f).sum) := bi_sumL (intsOf_map' f xs)
@[simp] theorem bi_sum_comp {α : Type} (f : α → Int) (xs : List α) : bi "sum" [.list (xs.map (PyData.int ∘ f))] = pure (.int (xs.map f).sum) := bi_sumL (intsOf_map' f xs)
theorem filter_empty {α : Type} (p : α → Bool) (xs : List α) : (xs.filter p).isEmpty = xs.all fun x => !p x := by
  induction xs with
  | nil => rfl
  | cons x xs ih =>
    by_cases h : p x = true
    · rw [List.filter_cons_of_pos h]
      simp [h]
    · rw [List.filter_cons_of_neg h, ih]
      simp [h]
theorem eqD_filtF {α : Type} {f : α → D} (h : ∀ x, fine 63 (f x) = true) (p : α → Bool) (xs : List α) : eqD (.list ((xs.filter p).map f)) (.list []) = pure (xs.all fun x => !p x) := by
  rw [eqD_nil, List.isEmpty_map, filter_empty]
  rw [List.all_map, List.all_eq_true]
  exact fun x _ => h x
theorem eqD_filt {α : Type} (f : α → Int) (p : α → Bool) (xs : List α) : eqD (.list ((xs.filter p).map fun x => .int (f x))) (.list []) = pure (xs.all fun x => !p x) := eqD_filtF (fun _ => by simp) p xs
theorem eqD_filtI (p : Int → Bool) (xs : List Int) : eqD (.list ((xs.filter p).map PyData.int)) (.list []) = pure (xs.all fun x => !p x) := eqD_filtF (fun _ => by simp) p xs
@[simp] theorem nod_dict (kvs : List (D × D)) : nod (.dict kvs) = false := by simp [nod]
@[simp] theorem ndlt (a b : Int) : (!decide (a < b)) = decide (b ≤ a) := by
  rw [Bool.eq_iff_iff]
  simp
@[simp] theorem ndle (a b : Int) : (!decide (a ≤ b)) = decide (b < a) := by
  rw [Bool.eq_iff_iff]
  simp
theorem sortI_len (xs : List Int) : (sortI xs).length = xs.length := by simp [sortI]
theorem sortI_mem {xs : List Int} {x : Int} : x ∈ sortI xs ↔ x ∈ xs := by simp [sortI]
/-- drawn items that are numbers -/
theorem dints_of {α : Type} {ys : List D} {xs : List α} {P : Int → Prop} (hl : ys.length = xs.length) (h : ∀ (i : Nat) (x : α) y, xs[i]? = some x → ys[i]? = some y → ∃ n, y = .int n ∧ P n) :
    ∃ ns : List Int, ys = ns.map .int ∧ ns.length = xs.length ∧ ∀ n ∈ ns, P n := by
  induction ys generalizing xs with
  | nil => exact ⟨[], rfl, by simpa using hl, by simp⟩
  | cons y ys ih =>
    cases xs with
    | nil => simp at hl
    | cons x xs =>
      obtain ⟨ns, rfl, h2, h3⟩ := ih (xs := xs) (by simpa using hl) fun i x y hx hy => h (i + 1) x y (by simpa using hx) (by simpa using hy)
      obtain ⟨n, rfl, hn⟩ := h 0 x y rfl rfl
      exact ⟨n :: ns, rfl, by simp [h2], by simpa using ⟨hn, h3⟩⟩
theorem range0 {n : Int} (h : n ≤ 100000) (h' : -100000 ≤ n) : iterC "range" [.int n] = pure ((List.range n.toNat).map fun (i : Nat) => PyData.int (0 + (i : Int))) := iterC_range1 (in62_of (by omega) (by omega))
theorem range2 {a b : Int} (h : a ≤ 100000) (h' : -100000 ≤ a) (g : b ≤ 100000) (g' : -100000 ≤ b) : iterC "range" [.int a, .int b] = pure ((List.range (b - a).toNat).map fun (i : Nat) => PyData.int (a + (i : Int))) := iterC_range2 (in62_of (by omega) (by omega)) (in62_of (by omega) (by omega))
@[simp] theorem sTry_pure (fl : Flow) (k : Flow → M Flow) : sTry (pure fl) k = k fl := of_eq_true (eq_self _)
@[simp] theorem catch_ret (e : Str → Bool) (c : Str) (i : Nat → Bool) (h : Str → Option D) (d : D) (o : Bool) : catchS e c i h (.ret d o) = pure (.ret d o) := of_eq_true (eq_self _)
@[simp] theorem catch_nx (e : Str → Bool) (c : Str) (i : Nat → Bool) (h : Str → Option D) (σ : St) : catchS e c i h (.nx σ) = pure (.nx σ) := of_eq_true (eq_self _)
@[simp] theorem catchM_ret (e : Str → Bool) (l : List ClauseS) (d : D) (o : Bool) : catchM e l (.ret d o) = pure (.ret d o) := of_eq_true (eq_self _)
@[simp] theorem catchM_nx (e : Str → Bool) (l : List ClauseS) (σ : St) : catchM e l (.nx σ) = pure (.nx σ) := of_eq_true (eq_self _)
theorem catchM_rz {e : Str → Bool} {cn : Str} {fs : List (Str × D)} {σ : St} {l : List ClauseS} (h1 : e cn = true) (h2 : (l.all fun p => p.2.1 σ.length) = true) : catchM e l (.rz ⟨cn, fs⟩ σ) = clausesS ⟨cn, fs⟩ σ l := by
  unfold catchM
  simp only
  rw [if_pos ⟨h1, h2⟩]
theorem clauses_hit {x : Exc} {σ : St} {c : Str} {i : Nat → Bool} {h : Exc → Option D} {r : List ClauseS} (d : D) (h3 : x.cls = c) (h4 : h x = some d) : clausesS x σ ((c, i, h) :: r) = pure (.ret d false) := by
  rw [clausesS, if_pos h3, h4]
theorem clauses_miss {x : Exc} {σ : St} {c : Str} {i : Nat → Bool} {h : Exc → Option D} {r : List ClauseS} (h3 : x.cls ≠ c) : clausesS x σ ((c, i, h) :: r) = clausesS x σ r := by
  rw [clausesS, if_neg h3]
theorem catch_rz {e : Str → Bool} {c cn : Str} {fs : List (Str × D)} {i : Nat → Bool} {h : Str → Option D} {σ : St} (d : D) (h1 : e cn = true) (h2 : i σ.length = true) (h3 : cn = c) (h4 : h cn = some d) : catchS e c i h (.rz ⟨cn, fs⟩ σ) = pure (.ret d false) := by
  unfold catchS
  rw [catchM_rz h1 (by simp [h2]), clauses_hit d h3 h4]
@[simp] theorem eqD_bool (a b : Bool) : eqD (.bool a) (.bool b) = pure (a == b) := by
  rw [eqD_def (by simp) (by simp)]
  simp [PyData.eqv]
@[simp] theorem forL_nil (bind : St → D → Option St) (b : St → M Flow) (σ : St) : forL bind b [] σ = pure (.nx σ) := of_eq_true (eq_self _)
theorem forL_cons {bind : St → D → Option St} {b : St → M Flow} {d : D} {ds : List D} {σ σ1 σ2 : St} (h : bind σ d = some σ1) (h2 : b σ1 = pure (.nx σ2)) : forL bind b (d :: ds) σ = forL bind b ds σ2 := by
  rw [forL.eq_def]
  simp only [h, h2, pure_bd]
theorem forL_ds {bind : St → D → Option St} {b : St → M Flow} (xs : List D) (I : Nat → St → DS → Prop)
    (H : ∀ k x σ s, xs[k]? = some x → I k σ s → ∃ σ1, bind σ x = some σ1 ∧ (b σ1 s).sat (NC (I (k + 1)))) {σ : St} {s : DS} (h0 : I 0 σ s) :
    (forL bind b xs σ s).sat (NX (I xs.length)) := by
  have := forL_at id (bind := bind) (b := b) xs I H h0
  rwa [List.map_id] at this
@[simp] theorem getT_zero (d : D) (ds : List D) : getD' (.tuple (d :: ds)) (.int 0) = pure d := getT_nat (i := 0) rfl
@[simp] theorem getT_one (d e : D) (ds : List D) : getD' (.tuple (d :: e :: ds)) (.int 1) = pure e := getT_nat (i := 1) rfl
@[simp] theorem getL_zero (d : D) (ds : List D) : getD' (.list (d :: ds)) (.int 0) = pure d := getL_nat (i := 0) rfl
@[simp] theorem getL_one (d e : D) (ds : List D) : getD' (.list (d :: e :: ds)) (.int 1) = pure e := getL_nat (i := 1) rfl
@[simp] theorem revS_list (ds : List D) : revS (pure (.list ds)) = pure (.list ds.reverse) := of_eq_true (eq_self _)
@[simp] theorem sParN_def (σ : St) (ns : List Bool) (ms : List (M D)) (is : List Nat) : sParN σ ns ms is = stE (evsS ms) σ fun ds => nx1 (setPar ns σ is ds) := of_eq_true (eq_self _)
@[simp] theorem setPar_2 (p q : Bool) (σ : St) (i j : Nat) (d e : D) : setPar [p, q] σ [i, j] [d, e] = some ((σ.set i (some (d, p && isL d))).set j (some (e, q && isL e))) := rfl
@[simp] theorem setPar_f3 (a b c : Bool) (σ : St) (is : List Nat) (ds : List D) : setPar [a, b, c] σ is ds = setAll σ is ds := by
  rfl
@[simp] theorem augI_add (a b : Int) : augI .Add a b = some (a + b) := of_eq_true (eq_self _)
@[simp] theorem augI_sub (a b : Int) : augI .Sub a b = some (a - b) := of_eq_true (eq_self _)
theorem sAug_int {σ : St} {i : Nat} {op : Operator} {a b c : Int} {o : Bool} (h : σ[i]? = some (some (.int a, o))) (h2 : augI op a b = some c) : sAug σ i op (pure (.int b)) = pure (.nx (σ.set i (some (.int c, false)))) := by
  unfold sAug
  rw [h]
  simp only [stE_pure, h2, nx1_some]
theorem sApp_own {σ : St} {l : Nat} {ds : List D} {d : D} (h : σ[l]? = some (some (.list ds, true))) (hl : ds.length < sline) : sApp σ l (pure d) = pure (.nx (σ.set l (some (.list (ds ++ [d]), true)))) := by
  unfold sApp
  rw [ownI_some σ l ds h]
  simp only [stE_pure]
  rw [if_pos hl]
/-- a loop that gives back at the first item that fits -/
theorem forL_find {α : Type} {enc : α → D} {bind : St → D → Option St} {b : St → M Flow} (p : α → Bool) (r : α → D × Bool) (st : Sl → St) (hb : ∀ v x, bind (st v) (enc x) = some (st (some (enc x, false)))) : ∀ (xs : List α)
    (_ : ∀ x ∈ xs, b (st (some (enc x, false))) = if p x = true then pure (.ret (r x).1 (r x).2) else pure (.nx (st (some (enc x, false))))) (v : Sl),
    ∃ v', forL bind b (xs.map enc) (st v) = pure (match xs.find? p with | some x => .ret (r x).1 (r x).2 | none => .nx (st v'))
  | [], _, v => ⟨v, rfl⟩
  | x :: xs, H, v => by
    have h1 := H x (List.mem_cons_self ..)
    obtain ⟨v', e⟩ := forL_find p r st hb xs (fun y hy => H y (List.mem_cons_of_mem _ hy)) (some (enc x, false))
    rw [List.map_cons]
    unfold forL
    rw [hb]
    simp only
    rw [h1]
    cases hp : p x with
    | true =>
      refine ⟨none, ?_⟩
      rw [if_pos rfl, List.find?_cons_of_pos hp]
      rfl
    | false =>
      refine ⟨v', ?_⟩
      rw [if_neg (by simp), List.find?_cons_of_neg (by simp [hp]), pure_bd]
      exact e
/-- a loop that carries a value -/
theorem forL_fold {α β : Type} {enc : α → D} {bind : St → D → Option St} {b : St → M Flow} (f : β → α → β) (st : β → Sl → St) (hb : ∀ a v x, bind (st a v) (enc x) = some (st a (some (enc x, false)))) (P : Nat → β → Prop) : ∀ (xs : List α) (k : Nat)
    (_ : ∀ (i : Nat) x a, xs[i]? = some x → P (k + i) a → b (st a (some (enc x, false))) = pure (.nx (st (f a x) (some (enc x, false)))) ∧ P (k + i + 1) (f a x)) (a : β) (_ : P k a) (v : Sl),
    ∃ v', forL bind b (xs.map enc) (st a v) = pure (.nx (st (xs.foldl f a) v')) ∧ P (k + xs.length) (xs.foldl f a)
  | [], k, _, a, h, v => ⟨v, rfl, h⟩
  | x :: xs, k, H, a, h, v => by
    obtain ⟨h1, h2⟩ := H 0 x a rfl h
    obtain ⟨v', e, h3⟩ := forL_fold f st hb P xs (k + 1) (fun i y c hy hc => by
      have := H (i + 1) y c (by simpa using hy) (by rwa [show k + (i + 1) = k + 1 + i from by omega])
      rwa [show k + (i + 1) + 1 = k + 1 + i + 1 from by omega] at this) (f a x) h2 (some (enc x, false))
    refine ⟨v', ?_, by rw [List.foldl_cons, List.length_cons, show k + (xs.length + 1) = k + 1 + xs.length from by omega]; exact h3⟩
    rw [List.map_cons]
    unfold forL
    rw [hb]
    simp only
    rw [h1, pure_bd]
    exact e
@[simp] theorem bi_sum_dropL (k : Nat) (xs : List Int) : bi "sum" [.list ((xs.map PyData.int).drop k)] = pure (.int (xs.drop k).sum) := by rw [← List.map_drop]; exact bi_sum_ints _
@[simp] theorem bi_sum_dropT (k : Nat) (xs : List Int) : bi "sum" [.tuple ((xs.map PyData.int).drop k)] = pure (.int (xs.drop k).sum) := by rw [← List.map_drop]; exact bi_sum_tup _
@[simp] theorem bi_sum_takeL (k : Nat) (xs : List Int) : bi "sum" [.list ((xs.map PyData.int).take k)] = pure (.int (xs.take k).sum) := by rw [← List.map_take]; exact bi_sum_ints _
@[simp] theorem bi_sum_takeT (k : Nat) (xs : List Int) : bi "sum" [.tuple ((xs.map PyData.int).take k)] = pure (.int (xs.take k).sum) := by rw [← List.map_take]; exact bi_sum_tup _
theorem rangeN {n : Nat} (h : n ≤ 100000) : iterC "range" [.int (n : Int)] = pure ((List.range n).map fun (i : Nat) => PyData.int (i : Int)) := by
  rw [iterC_range1 (in62_nat (by omega)), rangeD_eq, Int.toNat_natCast]
  simp
@[simp] theorem is_nn : cmpop .Is .none .none = pure true := of_eq_true (eq_self _)
@[simp] theorem is_in (i : Int) : cmpop .Is (.int i) .none = pure false := of_eq_true (eq_self _)
@[simp] theorem is_tn (ds : List D) : cmpop .Is (.tuple ds) .none = pure false := of_eq_true (eq_self _)
@[simp] theorem isn_nn : cmpop .IsNot .none .none = pure false := of_eq_true (eq_self _)
@[simp] theorem isn_in (i : Int) : cmpop .IsNot (.int i) .none = pure true := of_eq_true (eq_self _)
@[simp] theorem isn_tn (ds : List D) : cmpop .IsNot (.tuple ds) .none = pure true := of_eq_true (eq_self _)
@[simp] theorem is_bb (a b : Bool) : cmpop .Is (.bool a) (.bool b) = pure (a == b) := of_eq_true (eq_self _)
@[simp] theorem isn_bb (a b : Bool) : cmpop .IsNot (.bool a) (.bool b) = pure (!(a == b)) := of_eq_true (eq_self _)
end Py

set_option Elab.async false
set_option linter.all false
set_option maxRecDepth 100000
namespace Py
open PySem
/-- the trailing noughts go -/
theorem strip_loop {c : St → M D} {b : St → M Flow} (st : List Int → St) (hc0 : c (st []) = pure (.bool false)) (hc : ∀ ys z, c (st (ys ++ [z])) = pure (.bool (decide (z = 0)))) (hb : ∀ ys z, b (st (ys ++ [z])) = pure (.nx (st ys))) : ∀ (n : Nat) (row : List Int), row.length < n →
    ∃ ys m, row = ys ++ List.replicate m 0 ∧ (ys = [] ∨ ∃ zs z, ys = zs ++ [z] ∧ z ≠ 0) ∧ sWhile c b n (st row) = pure (.nx (st ys))
  | 0, row, h => absurd h (Nat.not_lt_zero _)
  | n + 1, row, h => by
    by_cases he : row = []
    · subst he
      refine ⟨[], 0, rfl, .inl rfl, ?_⟩
      unfold sWhile whileL
      rw [hc0]
      simp
    · obtain ⟨ys, z, rfl⟩ := snoc_of (xs := row) (by cases row with | nil => exact absurd rfl he | cons => simp)
      by_cases hz : z = 0
      · subst hz
        obtain ⟨zs, m, e, h2, h3⟩ := strip_loop st hc0 hc hb n ys (by simp at h; omega)
        refine ⟨zs, m + 1, ?_, h2, ?_⟩
        · rw [e, List.append_assoc]
          congr 1
          exact (List.replicate_succ' ..).symm
        · unfold sWhile at h3 ⊢
          unfold whileL
          rw [hc]
          simp only [tstS_bool, stE_pure, decide_true, if_true]
          rw [hb, pure_bd]
          exact h3
      · refine ⟨ys ++ [z], 0, by simp, .inr ⟨ys, z, rfl, hz⟩, ?_⟩
        unfold sWhile whileL
        rw [hc]
        simp [hz]
theorem msr_list (σ : St) (i : Nat) (ds : List D) (o : Bool) (h : σ[i]? = some (some (.list ds, o))) : ds.length ≤ msr σ := by
  unfold msr
  induction σ generalizing i with
  | nil => simp at h
  | cons x σ ih =>
    cases i with
    | zero => simp at h; subst h; simp
    | succ i =>
      have := ih i (by simpa using h)
      simp only [List.map_cons, List.sum_cons]
      omega
theorem eqD_listnil (xs : List Int) : eqD (.list (xs.map .int)) (.list []) = pure (decide (xs = [])) := eqD_lis xs []
theorem set_mapI (row : List Int) (i : Nat) (v : Int) : (row.map PyData.int).set i (.int v) = (row.set i v).map .int := by rw [List.map_set]
theorem ext_ix {xs ys : List Int} (hl : xs.length = ys.length) (h : ∀ k : Nat, k < xs.length → ix xs k = ix ys k) : xs = ys := by
  apply List.ext_getElem hl
  intro i h1 h2
  have := h i h1
  unfold ix at this
  simpa [h1, h2] using this
theorem forL_foldG {α β V : Type} {enc : α → D} {bind : St → D → Option St} {b : St → M Flow} (f : β → α → β) (st : β → V → St) (I : β → Prop) : ∀ (xs : List α)
    (_ : ∀ x ∈ xs, ∀ a v, I a → ∃ σ1, bind (st a v) (enc x) = some σ1 ∧ (∃ v', b σ1 = pure (.nx (st (f a x) v'))) ∧ I (f a x)) (a : β) (_ : I a) (v : V),
    ∃ v', forL bind b (xs.map enc) (st a v) = pure (.nx (st (xs.foldl f a) v')) ∧ I (xs.foldl f a)
  | [], _, a, h, v => ⟨v, rfl, h⟩
  | x :: xs, H, a, h, v => by
    obtain ⟨σ1, h1, ⟨v1, h2⟩, h3⟩ := H x (List.mem_cons_self ..) a v h
    obtain ⟨v', e, h4⟩ := forL_foldG f st I xs (fun y hy => H y (List.mem_cons_of_mem _ hy)) (f a x) h3 v1
    exact ⟨v', by rw [List.map_cons, forL_cons h1 h2, e]; rfl, h4⟩
theorem forL_foldP {α β V : Type} {enc : α → D} {bind : St → D → Option St} {b : St → M Flow} (f : β → α → β) (st : β → V → St) (I : List α → β → Prop) : ∀ (xs : List α)
    (_ : ∀ x ys, x ∈ xs → ∀ a v, I (x :: ys) a → ∃ σ1, bind (st a v) (enc x) = some σ1 ∧ (∃ v', b σ1 = pure (.nx (st (f a x) v'))) ∧ I ys (f a x)) (a : β) (_ : I xs a) (v : V),
    ∃ v', forL bind b (xs.map enc) (st a v) = pure (.nx (st (xs.foldl f a) v'))
  | [], _, a, h, v => ⟨v, rfl⟩
  | x :: xs, H, a, h, v => by
    obtain ⟨σ1, h1, ⟨v1, h2⟩, h3⟩ := H x xs (List.mem_cons_self ..) a v h
    obtain ⟨v', e⟩ := forL_foldP f st I xs (fun y ys hy => H y ys (List.mem_cons_of_mem _ hy)) (f a x) h3 v1
    exact ⟨v', by rw [List.map_cons, forL_cons h1 h2, e]; rfl⟩
/-- v is added at i -/
def addAt (xs : List Int) (i : Nat) (v : Int) : List Int := xs.set i (ix xs i + v)
@[simp] theorem addAt_len (xs : List Int) (i : Nat) (v : Int) : (addAt xs i v).length = xs.length := by simp [addAt]
theorem ix_addAt {r : List Int} {i : Nat} (h : i < r.length) (v : Int) (k : Nat) : ix (addAt r i v) k = ix r k + if k = i then v else 0 := by
  unfold addAt
  by_cases hk : k = i
  · subst hk
    simp [ix, h]
  · rw [if_neg hk]
    simp only [ix, Int.toNat_natCast, List.getD_eq_getElem?_getD]
    rw [List.getElem?_set_ne (by omega)]
    omega
/-- l[i] = v -/
theorem sSub_own {σ : St} {l i : Nat} {xs : List Int} {v : Int} (h : σ[l]? = some (some (.list (xs.map .int), true))) (hi : i < xs.length) :
    sSub σ l (pure (.int (i : Int))) (pure (.int v)) = pure (.nx (σ.set l (some (.list ((xs.set i v).map .int), true)))) := by
  have h1 : L2.ixN (xs.map PyData.int).length (i : Int) = some i := by
    rw [List.length_map]
    exact ixN_nat hi
  unfold sSub
  rw [ownI_some _ _ _ h]
  simp only [stE_pure, h1]
  simp [List.map_set]
theorem set_sum : ∀ (r : List Int) (i : Nat) (v : Int), i < r.length → (r.set i v).sum = r.sum - ix r i + v
  | [], i, v, h => by simp at h
  | x :: r, 0, v, h => by simp [ix]; omega
  | x :: r, i + 1, v, h => by
    have := set_sum r i v (by simpa using h)
    simp [ix] at this ⊢
    omega
theorem addAt_sum {r : List Int} {i : Nat} (h : i < r.length) (v : Int) : (addAt r i v).sum = r.sum + v := by
  unfold addAt
  rw [set_sum r i _ h]
  omega
theorem msr_int (σ : St) (i : Nat) (x : Int) (o : Bool) (h : σ[i]? = some (some (.int x, o))) : x.natAbs ≤ msr σ := by
  unfold msr
  induction σ generalizing i with
  | nil => simp at h
  | cons s σ ih =>
    cases i with
    | zero =>
      simp at h
      subst h
      simp
    | succ i =>
      have := ih i (by simpa using h)
      simp at this ⊢
      omega
/-- without the noughts at the end -/
def strp (xs : List Int) : List Int := (xs.reverse.dropWhile (· == 0)).reverse
theorem strp_snoc0 (xs : List Int) : strp (xs ++ [0]) = strp xs := by simp [strp]
theorem strp_snoc {xs : List Int} {z : Int} (h : z ≠ 0) : strp (xs ++ [z]) = xs ++ [z] := by simp [strp, h]
theorem strip_ne {c : St → M D} {b : St → M Flow} (st : List Int → St) (hc : ∀ ys z, c (st (ys ++ [z])) = pure (.bool (decide (z = 0)))) (hb : ∀ ys z, b (st (ys ++ [z])) = pure (.nx (st ys))) : ∀ (n : Nat) (row : List Int), row.length < n → (∃ x ∈ row, x ≠ 0) →
    sWhile c b n (st row) = pure (.nx (st (strp row)))
  | 0, row, h, _ => absurd h (Nat.not_lt_zero _)
  | n + 1, row, h, hx => by
    obtain ⟨ys, z, rfl⟩ := snoc_of (xs := row) (by cases row with | nil => obtain ⟨x, hx, _⟩ := hx; cases hx | cons => simp)
    unfold sWhile whileL
    rw [hc]
    by_cases hz : z = 0
    · subst hz
      have ih := strip_ne st hc hb n ys (by simp at h; omega) (by
        obtain ⟨x, hx, h0⟩ := hx
        rcases List.mem_append.mp hx with hx | hx
        · exact ⟨x, hx, h0⟩
        · simp at hx; exact absurd hx h0)
      rw [strp_snoc0]
      simp only [tstS_bool, stE_pure, decide_true, if_true]
      rw [hb, pure_bd]
      unfold sWhile at ih
      exact ih
    · rw [strp_snoc hz]
      simp [hz]
theorem strp_rep : ∀ (m : Nat) (xs : List Int), strp (xs ++ List.replicate m 0) = strp xs
  | 0, xs => by simp
  | m + 1, xs => by rw [List.replicate_succ', ← List.append_assoc, strp_snoc0, strp_rep m xs]
/-! sums over places -/
def sumR (n : Nat) (f : Nat → Int) : Int := ((List.range n).map f).sum
@[simp] theorem sumR_zero (f : Nat → Int) : sumR 0 f = 0 := rfl
theorem sumR_front (n : Nat) (f : Nat → Int) : sumR (n + 1) f = f 0 + sumR n (fun i => f (i + 1)) := by
  unfold sumR
  rw [List.range_succ_eq_map]
  simp [Function.comp_def]
theorem sumR_back (n : Nat) (f : Nat → Int) : sumR (n + 1) f = sumR n f + f n := by
  unfold sumR
  rw [List.range_succ]
  simp
theorem sumR_add (n : Nat) (f g : Nat → Int) : sumR n (fun i => f i + g i) = sumR n f + sumR n g := by
  induction n with
  | zero => rfl
  | succ n ih => rw [sumR_back, sumR_back, sumR_back, ih]; omega
theorem sumR_sub (n : Nat) (f g : Nat → Int) : sumR n (fun i => f i - g i) = sumR n f - sumR n g := by
  induction n with
  | zero => rfl
  | succ n ih => rw [sumR_back, sumR_back, sumR_back, ih]; omega
theorem sumR_congr {n : Nat} {f g : Nat → Int} (h : ∀ i, i < n → f i = g i) : sumR n f = sumR n g := by
  unfold sumR
  rw [List.map_congr_left fun i hi => h i (List.mem_range.mp hi)]
theorem sumR_mul (c : Int) (n : Nat) (f : Nat → Int) : sumR n (fun i => c * f i) = c * sumR n f := by
  induction n with
  | zero => simp
  | succ n ih => rw [sumR_back, sumR_back, ih, Int.mul_add]
theorem sumR_const0 (n : Nat) : sumR n (fun _ => 0) = 0 := by
  induction n with
  | zero => rfl
  | succ n ih => rw [sumR_back, ih]; rfl
theorem sum_ix : ∀ (xs : List Int), xs.sum = sumR xs.length (fun i => ix xs i)
  | [] => rfl
  | x :: xs => by
    rw [List.length_cons, sumR_front, List.sum_cons, sum_ix xs]
    rfl
theorem ix_cons_succ (x : Int) (xs : List Int) (i : Nat) : ix (x :: xs) ((i + 1 : Nat) : Int) = ix xs i := rfl
theorem ix_cons_zero (x : Int) (xs : List Int) : ix (x :: xs) ((0 : Nat) : Int) = x := rfl
theorem sumR_swap (n m : Nat) (f : Nat → Nat → Int) : sumR n (fun i => sumR m (fun j => f i j)) = sumR m (fun j => sumR n (fun i => f i j)) := by
  induction n with
  | zero => simp [sumR_const0]
  | succ n ih =>
    rw [sumR_back, ih, ← sumR_add]
    exact sumR_congr fun j _ => (sumR_back n (fun i => f i j)).symm
theorem ix_drop (xs : List Int) (k i : Nat) : ix (xs.drop k) i = ix xs ((k + i : Nat) : Int) := by
  unfold ix
  simp only [Int.toNat_natCast, List.getD_eq_getElem?_getD, List.getElem?_drop]
theorem ix_take {xs : List Int} {k i : Nat} (h : i < k) : ix (xs.take k) i = ix xs i := by
  unfold ix
  simp [List.getElem?_take, h]
theorem getL_N {xs : List Int} {i : Nat} (h : i < xs.length) : getD' (.list (xs.map .int)) (.int (i : Int)) = pure (.int (ix xs i)) := getL_ix (by omega) (by omega)
theorem ixB {n : Nat} {a : List Int} (h : ∀ e ∈ a, Bt n e) {i : Nat} (hi : i < a.length) : Bt n (ix a i) := h _ (ix_mem (by omega) (by omega))
/-- a loop that gives back at the first item that fits -/
theorem forL_findG {α V : Type} {enc : α → D} {bind : St → D → Option St} {b : St → M Flow} (p : α → Bool) (r : α → D × Bool) (st : V → St) : ∀ (xs : List α)
    (_ : ∀ x ∈ xs, ∀ v, ∃ σ1, bind (st v) (enc x) = some σ1 ∧ (p x = true → b σ1 = pure (.ret (r x).1 (r x).2)) ∧ (p x = false → ∃ v', b σ1 = pure (.nx (st v')))) (v : V),
    (∃ x, xs.find? p = some x ∧ forL bind b (xs.map enc) (st v) = pure (.ret (r x).1 (r x).2)) ∨ (xs.find? p = none ∧ ∃ v', forL bind b (xs.map enc) (st v) = pure (.nx (st v')))
  | [], _, v => .inr ⟨rfl, v, rfl⟩
  | x :: xs, H, v => by
    obtain ⟨σ1, h1, h2, h3⟩ := H x (List.mem_cons_self ..) v
    cases hp : p x with
    | true =>
      refine .inl ⟨x, by rw [List.find?_cons_of_pos hp], ?_⟩
      rw [List.map_cons]
      unfold forL
      rw [h1]
      simp only
      rw [h2 hp, pure_bd]
    | false =>
      obtain ⟨v', h3⟩ := h3 hp
      have ih := forL_findG p r st xs (fun y hy => H y (List.mem_cons_of_mem _ hy)) v'
      rw [List.map_cons, forL_cons h1 h3, List.find?_cons_of_neg (by simp [hp])]
      exact ih
theorem foldl_sumR (g : Nat → Int) : ∀ (n : Nat) (a : Int), (List.range n).foldl (fun a k => a + g k) a = a + sumR n g
  | 0, a => by simp
  | n + 1, a => by
    rw [List.range_succ, List.foldl_append, foldl_sumR g n a, sumR_back]
    simp
    omega
theorem enum_R (xs : List Int) : enumD 0 (xs.map PyData.int) = (List.range xs.length).map fun (i : Nat) => PyData.tuple [.int (i : Int), .int (ix xs i)] := by
  have key : ∀ (xs : List Int) (k : Int), enumD k (xs.map PyData.int) = (List.range xs.length).map fun (i : Nat) => PyData.tuple [.int (k + (i : Int)), .int (ix xs i)] := by
    intro xs
    induction xs with
    | nil => intro k; rfl
    | cons x xs ih =>
      intro k
      rw [List.map_cons, enumD, ih (k + 1), List.length_cons, List.range_succ_eq_map]
      simp [ix]
      intro i hi
      omega
  rw [key xs 0]
  simp
theorem filter_sorted (p : Nat → Bool) (n : Nat) : ((List.range n).filter p).Pairwise (· < ·) := List.Pairwise.filter p List.pairwise_lt_range
theorem minI_head : ∀ (l : List Nat), l.Pairwise (· < ·) → l ≠ [] → minI (l.map fun (k : Nat) => (k : Int)) = (l.headD 0 : Nat)
  | [], _, h => absurd rfl h
  | k :: l, hp, _ => by
    have key : ∀ (l : List Nat) (k : Nat), (∀ j ∈ l, k < j) → (l.map fun (k : Nat) => (k : Int)).foldl min (k : Int) = k := by
      intro l
      induction l with
      | nil => intro k _; rfl
      | cons j l ih =>
        intro k h
        have hj := h j (List.mem_cons_self ..)
        rw [List.map_cons, List.foldl_cons, show min (k : Int) (j : Int) = k by omega]
        exact ih k fun i hi => h i (List.mem_cons_of_mem _ hi)
    exact key l k (List.pairwise_cons.mp hp).1
theorem bi_minN {l : List Nat} (hs : l.Pairwise (· < ·)) (h : l ≠ []) : bi "min" [.list (l.map fun (k : Nat) => PyData.int (k : Int))] = pure (.int (l.headD 0 : Nat)) := by
  have hi := intsOf_map' (fun (k : Nat) => (k : Int)) l
  have hm := minI_head l hs h
  cases l with
  | nil => exact absurd rfl h
  | cons y ys => exact (show bi "min" [.list ((y :: ys).map fun (k : Nat) => PyData.int (k : Int))] = (match intsOf ((y :: ys).map fun (k : Nat) => PyData.int (k : Int)) with
      | some (n :: ns) => pure (.int (minI (n :: ns)))
      | _ => fail) from rfl).trans (by rw [hi, ← hm]; rfl)
theorem get_headN {l : List Nat} (h : l ≠ []) : getD' (.list (l.map fun (k : Nat) => PyData.int (k : Int))) (.int 0) = pure (.int (l.headD 0 : Nat)) := by
  cases l with
  | nil => exact absurd rfl h
  | cons y ys => simp
theorem get_lastN {l : List Nat} (h : l ≠ []) : getD' (.list (l.map fun (k : Nat) => PyData.int (k : Int))) (.int (-1)) = pure (.int (l.getLastD 0 : Nat)) := by
  refine getL_last ?_
  rw [List.getLast?_map]
  obtain ⟨ys, z, rfl⟩ := snoc_of (by cases l with | nil => exact absurd rfl h | cons => simp : 1 ≤ l.length)
  simp
theorem compS_items (items : M (List D)) (b : D → Option St) (f : St → M Bool) (g : St → M D) : compS items b f g = (items >>= fun ds => compS (pure ds) b f g) := rfl
theorem getT_N {xs : List Int} {i : Nat} (h : i < xs.length) : getD' (.tuple (xs.map .int)) (.int (i : Int)) = pure (.int (ix xs i)) := getT_ix (by omega) (by omega)
theorem sSub_add {σ : St} {l i : Nat} {xs : List Int} {v : Int} (h : σ[l]? = some (some (.list (xs.map .int), true))) (hi : i < xs.length) :
    sSub σ l (pure (.int (i : Int))) (pure (.int (ix xs i + v))) = pure (.nx (σ.set l (some (.list ((addAt xs i v).map .int), true)))) := sSub_own h hi
theorem sSub_sub {σ : St} {l i : Nat} {xs : List Int} {v : Int} (h : σ[l]? = some (some (.list (xs.map .int), true))) (hi : i < xs.length) :
    sSub σ l (pure (.int (i : Int))) (pure (.int (ix xs i - v))) = pure (.nx (σ.set l (some (.list ((addAt xs i (-v)).map .int), true)))) := by
  rw [Int.sub_eq_add_neg]
  exact sSub_add h hi
theorem strp_pre (xs : List Int) : ∃ m, xs = strp xs ++ List.replicate m 0 := by
  suffices h : ∀ ys : List Int, ∃ m, ys = List.replicate m 0 ++ ys.dropWhile (· == 0) by
    obtain ⟨m, hm⟩ := h xs.reverse
    refine ⟨m, ?_⟩
    have := congrArg List.reverse hm
    rw [List.reverse_reverse, List.reverse_append, List.reverse_replicate] at this
    exact this
  intro ys
  induction ys with
  | nil => exact ⟨0, rfl⟩
  | cons y ys ih =>
    obtain ⟨m, hm⟩ := ih
    by_cases h : y = 0
    · subst h
      exact ⟨m + 1, by rw [List.dropWhile_cons_of_pos (by simp), List.replicate_succ, List.cons_append, ← hm]⟩
    · exact ⟨0, by rw [List.dropWhile_cons_of_neg (by simpa using h)]; rfl⟩
theorem strp_mem {xs : List Int} {x : Int} (h : x ∈ strp xs) : x ∈ xs := by
  obtain ⟨m, hm⟩ := strp_pre xs
  rw [hm]
  exact List.mem_append_left _ h
theorem mem_strp {xs : List Int} {x : Int} (h : x ∈ xs) (h0 : x ≠ 0) : x ∈ strp xs := by
  obtain ⟨m, hm⟩ := strp_pre xs
  rw [hm] at h
  rcases List.mem_append.mp h with h | h
  · exact h
  · exact absurd (List.eq_of_mem_replicate h) h0
theorem strp_last {xs ys : List Int} {z : Int} (h : strp xs = ys ++ [z]) : z ≠ 0 := by
  have h2 : xs.reverse.dropWhile (· == 0) = z :: ys.reverse := by
    have := congrArg List.reverse h
    unfold strp at this
    rw [List.reverse_reverse] at this
    rw [this]
    simp
  intro e
  have := List.head?_dropWhile_not (fun x : Int => x == 0) xs.reverse
  rw [h2] at this
  simp [e] at this
@[simp] theorem fl_id (r : Res Flow) : Res.fl r (fun σ => pure (Flow.nx σ)) = r := by
  cases r with
  | ok f s => cases f <;> rfl
  | exc => rfl
  | fail => rfl
theorem comp2S_map {α β : Type} {items : M (List D)} {bind : D → Option St} {it : St → M (List D)} {vs : List Nat} {bind2 : St → D → Option St} {g : St → M D} (xs : List α) (enc : α → D) (ys : α → List β) (enc2 : α → β → D) (h : α → β → D)
    (hi : items = pure (xs.map enc)) (hl : (xs.flatMap fun x => (ys x).map (h x)).length ≤ sline)
    (H : ∀ x ∈ xs, ∃ σ, bind (enc x) = some σ ∧ it σ = pure ((ys x).map (enc2 x)) ∧ ∀ y ∈ ys x, ∃ σ2, bind2 (wipe σ vs) (enc2 x y) = some σ2 ∧ g σ2 = pure (h x y)) :
    comp2S items bind (fun _ => pure true) it vs bind2 (fun _ => pure true) g = pure (.list (xs.flatMap fun x => (ys x).map (h x))) := by
  have key : ∀ xs : List α, (∀ x ∈ xs, ∃ σ, bind (enc x) = some σ ∧ it σ = pure ((ys x).map (enc2 x)) ∧ ∀ y ∈ ys x, ∃ σ2, bind2 (wipe σ vs) (enc2 x y) = some σ2 ∧ g σ2 = pure (h x y)) →
      compL2 bind (fun _ => pure true) it vs bind2 (fun _ => pure true) g (xs.map enc) = pure (xs.flatMap fun x => (ys x).map (h x)) := by
    intro xs
    induction xs with
    | nil => intro _; rfl
    | cons x xs ih =>
      intro H
      obtain ⟨σ, h1, h2, h3⟩ := H x (List.mem_cons_self ..)
      have e := compL_map (bind := fun e => bind2 (wipe σ vs) e) (f := fun _ => pure true) (g := g) (enc2 x) (h x) (fun _ => true) (ys x) fun y hy => by
        obtain ⟨σ2, k1, k2⟩ := h3 y hy
        exact ⟨σ2, k1, rfl, fun _ => k2⟩
      rw [List.filter_eq_self.mpr fun _ _ => rfl] at e
      rw [List.map_cons]
      unfold compL2
      rw [h1]
      show ((pure σ : M St) >>= _) = _
      rw [pure_bd, pure_bd, if_pos rfl, h2, pure_bd, e, pure_bd, ih fun y hy => H y (List.mem_cons_of_mem _ hy), pure_bd, List.flatMap_cons]
  unfold comp2S
  rw [hi, pure_bd, key xs H, quiet_pure, pure_bd, if_pos hl]
theorem flat_len {α : Type} (f : Nat → List α) (m : Nat) : ∀ l : List Nat, (∀ i ∈ l, (f i).length ≤ m) → (l.flatMap f).length ≤ l.length * m
  | [], _ => by simp
  | i :: l, h => by
    have := flat_len f m l fun j hj => h j (List.mem_cons_of_mem _ hj)
    have := h i (List.mem_cons_self ..)
    rw [List.flatMap_cons, List.length_append, List.length_cons, Nat.add_mul]
    omega
end Py

set_option Elab.async false
set_option linter.all false
set_option maxRecDepth 100000
namespace Py
open PySem
def S_check_word (call : Str → List D → M D) (w : Nat) : List D → M D := runS ⟨false, false⟩ 1 1 fun σ =>
  thenF (sIf σ (orS [(notS (isiS (rd σ 0) ("str" : Str))), (cmp1 (rd σ 0) (pure (.tuple [.str "lr", .str "hr", .str "rh", .str "st", .str "mrl", .str "hmrl", .str "icx", .str "icv", .str "lt", .str "mean", .str "pr", .str "median", .str "least", .str "most"])) .NotIn)])
  (thenF (sRaise ("Malformed" : Str) σ) fun σ =>
    sEnd σ)
  (sEnd σ)) fun σ =>
  sEnd σ

def S_check_kind (call : Str → List D → M D) (w : Nat) : List D → M D := runS ⟨false, false⟩ 1 1 fun σ =>
  thenF (sIf σ (orS [(notS (isiS (rd σ 0) ("str" : Str))), (cmp1 (rd σ 0) (pure (.dict [(.str "all", .tuple [.tuple [.tuple [.int 0, .int 1], .tuple [.int 1, .int 0, .int 1]], .tuple [.tuple [.int 1, .int 0, .int 1], .tuple [.int 0, .int 1]], .tuple [.tuple [.int 8, .int 8], .tuple [.int 9, .int 7]], .tuple [.tuple [.int 0, .int 2, .int 0, .int 1], .tuple [.int 0, .int 1, .int 1, .int 1]], .tuple [.tuple [.int 3, .int 10, .int 0, .int 14], .tuple [.int 2, .int 11, .int 1, .int 13]], .tuple [.tuple [.int 15, .int 12, .int 3], .tuple [.int 16, .int 10, .int 4]], .tuple [.tuple [.int 1, .int 2, .int 3, .int 2, .int 0, .int 1], .tuple [.int 0, .int 0, .int 2, .int 0, .int 0, .int 5]], .tuple [.tuple [.int 0, .int 13, .int 0, .int 2], .tuple [.int 1, .int 11, .int 1, .int 2]], .tuple [.tuple [.int 1, .int 0, .int 0, .int 0, .int 1], .tuple [.int 0, .int 1]], .tuple [.tuple [.int 15, .int 18, .int 10, .int 2, .int 16], .tuple [.int 15, .int 17, .int 12, .int 2, .int 14, .int 1]]]), (.str "same", .tuple [.tuple [.tuple [.int 0, .int 1], .tuple [.int 1, .int 0, .int 1]], .tuple [.tuple [.int 1, .int 0, .int 1], .tuple [.int 0, .int 1]], .tuple [.tuple [.int 15, .int 12, .int 3], .tuple [.int 16, .int 10, .int 4]], .tuple [.tuple [.int 3, .int 10, .int 0, .int 14], .tuple [.int 2, .int 11, .int 1, .int 13]], .tuple [.tuple [.int 0, .int 13, .int 0, .int 2], .tuple [.int 1, .int 11, .int 1, .int 2]], .tuple [.tuple [.int 15, .int 18, .int 10, .int 2, .int 16], .tuple [.int 15, .int 17, .int 12, .int 2, .int 14, .int 1]]])])) .NotIn)])
  (thenF (sRaise ("Malformed" : Str) σ) fun σ =>
    sEnd σ)
  (sEnd σ)) fun σ =>
  sEnd σ

def S_arrows_of (call : Str → List D → M D) (w : Nat) : List D → M D := runS ⟨false, false⟩ 1 1 fun σ =>
  thenF (sRet (frz σ [0]) (ifeS (cmp1 (rd (frz σ [0]) 0) (pure (.str "all")) .Eq) (pure (.tuple [.tuple [.str "lr", .str "hr"], .tuple [.str "lr", .str "rh"], .tuple [.str "hr", .str "st"], .tuple [.str "hr", .str "mrl"], .tuple [.str "rh", .str "st"], .tuple [.str "st", .str "icx"], .tuple [.str "st", .str "icv"], .tuple [.str "st", .str "pr"], .tuple [.str "st", .str "median"], .tuple [.str "mrl", .str "hmrl"], .tuple [.str "hmrl", .str "icx"], .tuple [.str "icx", .str "mean"], .tuple [.str "icx", .str "most"], .tuple [.str "icv", .str "lt"], .tuple [.str "lt", .str "mean"], .tuple [.str "lt", .str "least"]])) (binS .Add (pure (.tuple [.tuple [.str "lr", .str "hr"], .tuple [.str "lr", .str "rh"], .tuple [.str "hr", .str "st"], .tuple [.str "hr", .str "mrl"], .tuple [.str "rh", .str "st"], .tuple [.str "st", .str "icx"], .tuple [.str "st", .str "icv"], .tuple [.str "st", .str "pr"], .tuple [.str "st", .str "median"], .tuple [.str "mrl", .str "hmrl"], .tuple [.str "hmrl", .str "icx"], .tuple [.str "icx", .str "mean"], .tuple [.str "icx", .str "most"], .tuple [.str "icv", .str "lt"], .tuple [.str "lt", .str "mean"], .tuple [.str "lt", .str "least"]])) (pure (.tuple [.tuple [.str "st", .str "lr"], .tuple [.str "icx", .str "hmrl"], .tuple [.str "lr", .str "mean"], .tuple [.str "hr", .str "mean"], .tuple [.str "rh", .str "mean"], .tuple [.str "st", .str "mean"], .tuple [.str "mrl", .str "mean"], .tuple [.str "hmrl", .str "mean"], .tuple [.str "icv", .str "mean"], .tuple [.str "pr", .str "mean"], .tuple [.str "median", .str "mean"], .tuple [.str "least", .str "mean"], .tuple [.str "most", .str "mean"]])))) false) fun σ =>
  sEnd σ

def S_arrows (call : Str → List D → M D) (w : Nat) : List D → M D := runS ⟨false, false⟩ 1 1 fun σ =>
  thenF (sExp (frz σ [0]) (callS call ("check_kind" : Str) [(rdV (frz σ [0]) 0)])) fun σ =>
  thenF (sRet (frz σ [0]) (biS ("tuple" : Str) [(biS ("sorted" : Str) [(callS call ("arrows_of" : Str) [(rdV (frz σ [0]) 0)])])]) false) fun σ =>
  sEnd σ

def S_chain_between_c0 (call : Str → List D → M D) (w : Nat) (σ : St) : M D :=
  (andS [(cmp1 (biS ("len" : Str) [(rd σ 4)]) (pure (.int 0)) .Gt), (cmp1 (rd σ 2) (rd σ 3) .NotIn)])
def S_chain_between_b1 (call : Str → List D → M D) (w : Nat) (σ : St) : M Flow :=
  thenF (sIf σ (andS [(cmp1 (rd σ 7) (rd σ 6) .Eq), (cmp1 (rd σ 8) (rd σ 3) .NotIn)])
  (thenF (sSub (frz σ [6]) 3 (rdV (frz σ [6]) 8) (rdV (frz σ [6]) 6)) fun σ =>
    thenF (sApp (frz σ [8]) 4 (rdV (frz σ [8]) 8)) fun σ =>
    sEnd σ)
  (sEnd σ)) fun σ =>
  sEnd σ
def S_chain_between_b2 (call : Str → List D → M D) (w : Nat) (σ : St) : M Flow :=
  thenF (sPopE σ 6 4 (pure (.int 0))) fun σ =>
  thenF (sFor (frz (frz σ [0]) [0]) (dataI (callS call ("arrows_of" : Str) [(rdV (frz (frz σ [0]) [0]) 0)])) (.many [7, 8]) (S_chain_between_b1 call w)) fun σ =>
  sEnd σ
def S_chain_between_c3 (call : Str → List D → M D) (w : Nat) (σ : St) : M D :=
  (cmp1 (ixS (rd σ 5) (negS (pure (.int 1)))) (rd σ 1) .NotEq)
def S_chain_between_b4 (call : Str → List D → M D) (w : Nat) (σ : St) : M Flow :=
  thenF (sApp σ 5 (ixS (rd σ 3) (ixS (rd σ 5) (negS (pure (.int 1)))))) fun σ =>
  sEnd σ
def S_chain_between (call : Str → List D → M D) (w : Nat) : List D → M D := runS ⟨false, false⟩ 3 9 fun σ =>
  thenF (sParN (frz σ [1, 1]) [true, true] [(dctS [((rdV (frz σ [1, 1]) 1), (pure (.none)))]), (lstS [(rdV (frz σ [1, 1]) 1)])] [3, 4]) fun σ =>
  thenF (sWhile (S_chain_between_c0 call w) (S_chain_between_b2 call w) (w + msr σ) σ) fun σ =>
  thenF (sIf σ (cmp1 (rd σ 2) (rd σ 3) .NotIn)
  (thenF (sRet (frz σ [0, 1, 2, 3, 4, 5, 6, 7, 8]) (pure (.none)) false) fun σ =>
    sEnd σ)
  (sEnd σ)) fun σ =>
  thenF (sAsg (frz σ [2]) (lstS [(rdV (frz σ [2]) 2)]) 5 true) fun σ =>
  thenF (sWhile (S_chain_between_c3 call w) (S_chain_between_b4 call w) (w + msr σ) σ) fun σ =>
  thenF (sRet (frz σ [0, 1, 2, 3, 4, 5, 6, 7, 8]) (biS ("tuple" : Str) [(revS (rd (frz σ [0, 1, 2, 3, 4, 5, 6, 7, 8]) 5))]) false) fun σ =>
  sEnd σ

def S_check_pair (call : Str → List D → M D) (w : Nat) : List D → M D := runS ⟨false, false⟩ 3 3 fun σ =>
  thenF (sExp (frz σ [0]) (callS call ("check_kind" : Str) [(rdV (frz σ [0]) 0)])) fun σ =>
  thenF (sExp (frz σ [1]) (callS call ("check_word" : Str) [(rdV (frz σ [1]) 1)])) fun σ =>
  thenF (sExp (frz σ [2]) (callS call ("check_word" : Str) [(rdV (frz σ [2]) 2)])) fun σ =>
  sEnd σ

def S_does_force (call : Str → List D → M D) (w : Nat) : List D → M D := runS ⟨false, false⟩ 3 3 fun σ =>
  thenF (sExp (frz σ [0, 1, 2]) (callS call ("check_pair" : Str) [(rdV (frz σ [0, 1, 2]) 0), (rdV (frz σ [0, 1, 2]) 1), (rdV (frz σ [0, 1, 2]) 2)])) fun σ =>
  thenF (sRet (frz σ [0, 1, 2]) (cmp1 (callS call ("chain_between" : Str) [(rdV (frz σ [0, 1, 2]) 0), (rdV (frz σ [0, 1, 2]) 1), (rdV (frz σ [0, 1, 2]) 2)]) (pure (.none)) .IsNot) false) fun σ =>
  sEnd σ

def S_all_forced_i0 (call : Str → List D → M D) (w : Nat) (σ : St) : M Bool :=
  tstS (cmp1 (callS call ("chain_between" : Str) [(rdV σ 0), (rdV σ 1), (rdV σ 2)]) (pure (.none)) .IsNot)
def S_all_forced_e1 (call : Str → List D → M D) (w : Nat) (σ : St) : M D :=
  (rdV σ 2)
def S_all_forced (call : Str → List D → M D) (w : Nat) : List D → M D := runS ⟨false, false⟩ 2 3 fun σ =>
  thenF (sExp (frz σ [0, 1, 1]) (callS call ("check_pair" : Str) [(rdV (frz σ [0, 1, 1]) 0), (rdV (frz σ [0, 1, 1]) 1), (rdV (frz σ [0, 1, 1]) 1)])) fun σ =>
  thenF (sRet (frz σ [0, 1]) (biS ("tuple" : Str) [(compS (dataI (pure (.tuple [.str "lr", .str "hr", .str "rh", .str "st", .str "mrl", .str "hmrl", .str "icx", .str "icv", .str "lt", .str "mean", .str "pr", .str "median", .str "least", .str "most"]))) (fun d => bindG (.one 2) (wipe (frz σ [0, 1]) [2]) d) (S_all_forced_i0 call w) (S_all_forced_e1 call w))]) false) fun σ =>
  sEnd σ

def S__law_says (call : Str → List D → M D) (w : Nat) : List D → M D := runS ⟨false, false⟩ 2 2 fun σ =>
  thenF (sRet (frz σ [0, 1]) (andS [(isiS (rd (frz σ [0, 1]) 0) ("bool" : Str)), (cmp1 (rd (frz σ [0, 1]) 0) (rd (frz σ [0, 1]) 1) .Eq)]) false) fun σ =>
  sEnd σ

def S__law_words (call : Str → List D → M D) (w : Nat) : List D → M D := runS ⟨false, false⟩ 0 0 fun σ =>
  thenF (sRet (frz σ []) (met1S ("split" : Str) (pure (.str "lr hr rh st mrl hmrl icx icv lt mean pr median least most")) (pure (.str " "))) false) fun σ =>
  sEnd σ

def S__law_arrows_e0 (call : Str → List D → M D) (w : Nat) (σ : St) : M D :=
  (tupS [(ixS (rd σ 3) (binS .Mult (pure (.int 2)) (rd σ 4))), (ixS (rd σ 3) (binS .Add (binS .Mult (pure (.int 2)) (rd σ 4)) (pure (.int 1))))])
def S__law_arrows (call : Str → List D → M D) (w : Nat) : List D → M D := runS ⟨false, false⟩ 1 5 fun σ =>
  thenF (sAsg σ (pure (.str "lr hr lr rh hr st hr mrl rh st st icx st icv st pr st median mrl hmrl hmrl icx icx mean icx most icv lt lt mean lt least")) 1 false) fun σ =>
  thenF (sAsg σ (pure (.str " st lr icx hmrl lr mean hr mean rh mean st mean mrl mean hmrl mean icv mean pr mean median mean least mean most mean")) 2 false) fun σ =>
  thenF (sAsg (frz σ [2]) (met1S ("split" : Str) (binS .Add (rd (frz σ [2]) 1) (ifeS (cmp1 (rd (frz σ [2]) 0) (pure (.str "same")) .Eq) (rdV (frz σ [2]) 2) (pure (.str "")))) (pure (.str " "))) 3 false) fun σ =>
  thenF (sRet (frz σ [0, 1, 2, 3]) (compS (iterS ("range" : Str) [(binS .FloorDiv (biS ("len" : Str) [(rd (frz σ [0, 1, 2, 3]) 3)]) (pure (.int 2)))]) (fun d => bindG (.one 4) (wipe (frz σ [0, 1, 2, 3]) [4]) d) (fun _ => pure true) (S__law_arrows_e0 call w)) true) fun σ =>
  sEnd σ

def S__law_reached_c0 (call : Str → List D → M D) (w : Nat) (σ : St) : M D :=
  (cmp1 (rd σ 3) (biS ("len" : Str) [(rd σ 2)]) .Lt)
def S__law_reached_i1 (call : Str → List D → M D) (w : Nat) (σ : St) : M Bool :=
  tstS (andS [(cmp1 (rd σ 4) (ixS (rd σ 2) (rd σ 3)) .Eq), (cmp1 (rd σ 5) (rd σ 2) .NotIn)])
def S__law_reached_e2 (call : Str → List D → M D) (w : Nat) (σ : St) : M D :=
  (rdV σ 5)
def S__law_reached_b3 (call : Str → List D → M D) (w : Nat) (σ : St) : M Flow :=
  thenF (sAsg (frz σ [0]) (binS .Add (rd (frz σ [0]) 2) (compS (dataI (callS call ("_law_arrows" : Str) [(rdV (frz σ [0]) 0)])) (fun d => bindG (.many [4, 5]) (wipe (frz σ [0]) [4, 5]) d) (S__law_reached_i1 call w) (S__law_reached_e2 call w))) 2 true) fun σ =>
  thenF (sAsg σ (binS .Add (rd σ 3) (pure (.int 1))) 3 true) fun σ =>
  sEnd σ
def S__law_reached (call : Str → List D → M D) (w : Nat) : List D → M D := runS ⟨false, false⟩ 2 6 fun σ =>
  thenF (sAsg (frz σ [1]) (lstS [(rdV (frz σ [1]) 1)]) 2 true) fun σ =>
  thenF (sAsg σ (pure (.int 0)) 3 false) fun σ =>
  thenF (sWhile (S__law_reached_c0 call w) (S__law_reached_b3 call w) (w + msr σ) σ) fun σ =>
  thenF (sRetN σ 2) fun σ =>
  sEnd σ

def S__law_told (call : Str → List D → M D) (w : Nat) : List D → M D := runS ⟨false, false⟩ 4 4 fun σ =>
  thenF (sTry (thenF (sIf σ (cmp1 (rd σ 0) (pure (.int 0)) .Eq)
    (thenF (sRet (frz σ [0, 1, 2, 3]) (callS call ("arrows" : Str) [(rdV (frz σ [0, 1, 2, 3]) 1)]) false) fun σ =>
      sEnd σ)
    (sEnd σ)) fun σ =>
    thenF (sRet (frz σ [0, 1, 2, 3]) (ifeS (cmp1 (rd (frz σ [0, 1, 2, 3]) 0) (pure (.int 1)) .Eq) (callS call ("does_force" : Str) [(rdV (frz σ [0, 1, 2, 3]) 1), (rdV (frz σ [0, 1, 2, 3]) 2), (rdV (frz σ [0, 1, 2, 3]) 3)]) (callS call ("all_forced" : Str) [(rdV (frz σ [0, 1, 2, 3]) 1), (rdV (frz σ [0, 1, 2, 3]) 2)])) false) fun σ =>
    sEnd σ) (catchS (fun x => decide (x ∈ (["Malformed"] : List Str))) ("Malformed" : Str) (fun _ => true) (fun x => (some (.str "<malformed>"))))) fun σ =>
  sEnd σ

end Py

set_option Elab.async false
set_option linter.all false
set_option maxRecDepth 100000
namespace Py
open PySem
def nocall : Str → List D → M D := fun _ _ => fail
def cA : Str → List D → M D := fun _ xs => S_arrows_of nocall 0 xs
def w14 : List Str := ["lr", "hr", "rh", "st", "mrl", "hmrl", "icx", "icv", "lt", "mean", "pr", "median", "least", "most"]
def aAll : List (Str × Str) := [("lr", "hr"), ("lr", "rh"), ("hr", "st"), ("hr", "mrl"), ("rh", "st"), ("st", "icx"), ("st", "icv"), ("st", "pr"), ("st", "median"), ("mrl", "hmrl"), ("hmrl", "icx"), ("icx", "mean"), ("icx", "most"), ("icv", "lt"), ("lt", "mean"), ("lt", "least")]
def aSame : List (Str × Str) := [("lr", "hr"), ("lr", "rh"), ("hr", "st"), ("hr", "mrl"), ("rh", "st"), ("st", "icx"), ("st", "icv"), ("st", "pr"), ("st", "median"), ("mrl", "hmrl"), ("hmrl", "icx"), ("icx", "mean"), ("icx", "most"), ("icv", "lt"), ("lt", "mean"), ("lt", "least"), ("st", "lr"), ("icx", "hmrl"), ("lr", "mean"), ("hr", "mean"), ("rh", "mean"), ("st", "mean"), ("mrl", "mean"), ("hmrl", "mean"), ("icv", "mean"), ("pr", "mean"), ("median", "mean"), ("least", "mean"), ("most", "mean")]
def v_all_lr : List D := [.tuple [.str "lr"], .tuple [.str "lr", .str "hr"], .tuple [.str "lr", .str "rh"], .tuple [.str "lr", .str "hr", .str "st"], .tuple [.str "lr", .str "hr", .str "mrl"], .tuple [.str "lr", .str "hr", .str "mrl", .str "hmrl"], .tuple [.str "lr", .str "hr", .str "st", .str "icx"], .tuple [.str "lr", .str "hr", .str "st", .str "icv"], .tuple [.str "lr", .str "hr", .str "st", .str "icv", .str "lt"], .tuple [.str "lr", .str "hr", .str "st", .str "icx", .str "mean"], .tuple [.str "lr", .str "hr", .str "st", .str "pr"], .tuple [.str "lr", .str "hr", .str "st", .str "median"], .tuple [.str "lr", .str "hr", .str "st", .str "icv", .str "lt", .str "least"], .tuple [.str "lr", .str "hr", .str "st", .str "icx", .str "most"]]
theorem tv_all_lr (s : DS) : (w14.map fun y => S_chain_between cA 30 [.str "all", .str "lr", .str y] s) = v_all_lr.map fun d => .ok d s := by kernel_rfl
def v_all_hr : List D := [.none, .tuple [.str "hr"], .none, .tuple [.str "hr", .str "st"], .tuple [.str "hr", .str "mrl"], .tuple [.str "hr", .str "mrl", .str "hmrl"], .tuple [.str "hr", .str "st", .str "icx"], .tuple [.str "hr", .str "st", .str "icv"], .tuple [.str "hr", .str "st", .str "icv", .str "lt"], .tuple [.str "hr", .str "st", .str "icx", .str "mean"], .tuple [.str "hr", .str "st", .str "pr"], .tuple [.str "hr", .str "st", .str "median"], .tuple [.str "hr", .str "st", .str "icv", .str "lt", .str "least"], .tuple [.str "hr", .str "st", .str "icx", .str "most"]]
theorem tv_all_hr (s : DS) : (w14.map fun y => S_chain_between cA 30 [.str "all", .str "hr", .str y] s) = v_all_hr.map fun d => .ok d s := by kernel_rfl
def v_all_rh : List D := [.none, .none, .tuple [.str "rh"], .tuple [.str "rh", .str "st"], .none, .none, .tuple [.str "rh", .str "st", .str "icx"], .tuple [.str "rh", .str "st", .str "icv"], .tuple [.str "rh", .str "st", .str "icv", .str "lt"], .tuple [.str "rh", .str "st", .str "icx", .str "mean"], .tuple [.str "rh", .str "st", .str "pr"], .tuple [.str "rh", .str "st", .str "median"], .tuple [.str "rh", .str "st", .str "icv", .str "lt", .str "least"], .tuple [.str "rh", .str "st", .str "icx", .str "most"]]
theorem tv_all_rh (s : DS) : (w14.map fun y => S_chain_between cA 30 [.str "all", .str "rh", .str y] s) = v_all_rh.map fun d => .ok d s := by kernel_rfl
def v_all_st : List D := [.none, .none, .none, .tuple [.str "st"], .none, .none, .tuple [.str "st", .str "icx"], .tuple [.str "st", .str "icv"], .tuple [.str "st", .str "icv", .str "lt"], .tuple [.str "st", .str "icx", .str "mean"], .tuple [.str "st", .str "pr"], .tuple [.str "st", .str "median"], .tuple [.str "st", .str "icv", .str "lt", .str "least"], .tuple [.str "st", .str "icx", .str "most"]]
theorem tv_all_st (s : DS) : (w14.map fun y => S_chain_between cA 30 [.str "all", .str "st", .str y] s) = v_all_st.map fun d => .ok d s := by kernel_rfl
def v_all_mrl : List D := [.none, .none, .none, .none, .tuple [.str "mrl"], .tuple [.str "mrl", .str "hmrl"], .tuple [.str "mrl", .str "hmrl", .str "icx"], .none, .none, .tuple [.str "mrl", .str "hmrl", .str "icx", .str "mean"], .none, .none, .none, .tuple [.str "mrl", .str "hmrl", .str "icx", .str "most"]]
theorem tv_all_mrl (s : DS) : (w14.map fun y => S_chain_between cA 30 [.str "all", .str "mrl", .str y] s) = v_all_mrl.map fun d => .ok d s := by kernel_rfl
def v_all_hmrl : List D := [.none, .none, .none, .none, .none, .tuple [.str "hmrl"], .tuple [.str "hmrl", .str "icx"], .none, .none, .tuple [.str "hmrl", .str "icx", .str "mean"], .none, .none, .none, .tuple [.str "hmrl", .str "icx", .str "most"]]
theorem tv_all_hmrl (s : DS) : (w14.map fun y => S_chain_between cA 30 [.str "all", .str "hmrl", .str y] s) = v_all_hmrl.map fun d => .ok d s := by kernel_rfl
def v_all_icx : List D := [.none, .none, .none, .none, .none, .none, .tuple [.str "icx"], .none, .none, .tuple [.str "icx", .str "mean"], .none, .none, .none, .tuple [.str "icx", .str "most"]]
theorem tv_all_icx (s : DS) : (w14.map fun y => S_chain_between cA 30 [.str "all", .str "icx", .str y] s) = v_all_icx.map fun d => .ok d s := by kernel_rfl
def v_all_icv : List D := [.none, .none, .none, .none, .none, .none, .none, .tuple [.str "icv"], .tuple [.str "icv", .str "lt"], .tuple [.str "icv", .str "lt", .str "mean"], .none, .none, .tuple [.str "icv", .str "lt", .str "least"], .none]
theorem tv_all_icv (s : DS) : (w14.map fun y => S_chain_between cA 30 [.str "all", .str "icv", .str y] s) = v_all_icv.map fun d => .ok d s := by kernel_rfl
def v_all_lt : List D := [.none, .none, .none, .none, .none, .none, .none, .none, .tuple [.str "lt"], .tuple [.str "lt", .str "mean"], .none, .none, .tuple [.str "lt", .str "least"], .none]
theorem tv_all_lt (s : DS) : (w14.map fun y => S_chain_between cA 30 [.str "all", .str "lt", .str y] s) = v_all_lt.map fun d => .ok d s := by kernel_rfl
def v_all_mean : List D := [.none, .none, .none, .none, .none, .none, .none, .none, .none, .tuple [.str "mean"], .none, .none, .none, .none]
theorem tv_all_mean (s : DS) : (w14.map fun y => S_chain_between cA 30 [.str "all", .str "mean", .str y] s) = v_all_mean.map fun d => .ok d s := by kernel_rfl
def v_all_pr : List D := [.none, .none, .none, .none, .none, .none, .none, .none, .none, .none, .tuple [.str "pr"], .none, .none, .none]
theorem tv_all_pr (s : DS) : (w14.map fun y => S_chain_between cA 30 [.str "all", .str "pr", .str y] s) = v_all_pr.map fun d => .ok d s := by kernel_rfl
def v_all_median : List D := [.none, .none, .none, .none, .none, .none, .none, .none, .none, .none, .none, .tuple [.str "median"], .none, .none]
theorem tv_all_median (s : DS) : (w14.map fun y => S_chain_between cA 30 [.str "all", .str "median", .str y] s) = v_all_median.map fun d => .ok d s := by kernel_rfl
def v_all_least : List D := [.none, .none, .none, .none, .none, .none, .none, .none, .none, .none, .none, .none, .tuple [.str "least"], .none]
theorem tv_all_least (s : DS) : (w14.map fun y => S_chain_between cA 30 [.str "all", .str "least", .str y] s) = v_all_least.map fun d => .ok d s := by kernel_rfl
def v_all_most : List D := [.none, .none, .none, .none, .none, .none, .none, .none, .none, .none, .none, .none, .none, .tuple [.str "most"]]
theorem tv_all_most (s : DS) : (w14.map fun y => S_chain_between cA 30 [.str "all", .str "most", .str y] s) = v_all_most.map fun d => .ok d s := by kernel_rfl
def v_same_lr : List D := [.tuple [.str "lr"], .tuple [.str "lr", .str "hr"], .tuple [.str "lr", .str "rh"], .tuple [.str "lr", .str "hr", .str "st"], .tuple [.str "lr", .str "hr", .str "mrl"], .tuple [.str "lr", .str "hr", .str "mrl", .str "hmrl"], .tuple [.str "lr", .str "hr", .str "st", .str "icx"], .tuple [.str "lr", .str "hr", .str "st", .str "icv"], .tuple [.str "lr", .str "hr", .str "st", .str "icv", .str "lt"], .tuple [.str "lr", .str "mean"], .tuple [.str "lr", .str "hr", .str "st", .str "pr"], .tuple [.str "lr", .str "hr", .str "st", .str "median"], .tuple [.str "lr", .str "hr", .str "st", .str "icv", .str "lt", .str "least"], .tuple [.str "lr", .str "hr", .str "st", .str "icx", .str "most"]]
theorem tv_same_lr (s : DS) : (w14.map fun y => S_chain_between cA 30 [.str "same", .str "lr", .str y] s) = v_same_lr.map fun d => .ok d s := by kernel_rfl
def v_same_hr : List D := [.tuple [.str "hr", .str "st", .str "lr"], .tuple [.str "hr"], .tuple [.str "hr", .str "st", .str "lr", .str "rh"], .tuple [.str "hr", .str "st"], .tuple [.str "hr", .str "mrl"], .tuple [.str "hr", .str "mrl", .str "hmrl"], .tuple [.str "hr", .str "st", .str "icx"], .tuple [.str "hr", .str "st", .str "icv"], .tuple [.str "hr", .str "st", .str "icv", .str "lt"], .tuple [.str "hr", .str "mean"], .tuple [.str "hr", .str "st", .str "pr"], .tuple [.str "hr", .str "st", .str "median"], .tuple [.str "hr", .str "st", .str "icv", .str "lt", .str "least"], .tuple [.str "hr", .str "st", .str "icx", .str "most"]]
theorem tv_same_hr (s : DS) : (w14.map fun y => S_chain_between cA 30 [.str "same", .str "hr", .str y] s) = v_same_hr.map fun d => .ok d s := by kernel_rfl
def v_same_rh : List D := [.tuple [.str "rh", .str "st", .str "lr"], .tuple [.str "rh", .str "st", .str "lr", .str "hr"], .tuple [.str "rh"], .tuple [.str "rh", .str "st"], .tuple [.str "rh", .str "st", .str "lr", .str "hr", .str "mrl"], .tuple [.str "rh", .str "st", .str "icx", .str "hmrl"], .tuple [.str "rh", .str "st", .str "icx"], .tuple [.str "rh", .str "st", .str "icv"], .tuple [.str "rh", .str "st", .str "icv", .str "lt"], .tuple [.str "rh", .str "mean"], .tuple [.str "rh", .str "st", .str "pr"], .tuple [.str "rh", .str "st", .str "median"], .tuple [.str "rh", .str "st", .str "icv", .str "lt", .str "least"], .tuple [.str "rh", .str "st", .str "icx", .str "most"]]
theorem tv_same_rh (s : DS) : (w14.map fun y => S_chain_between cA 30 [.str "same", .str "rh", .str y] s) = v_same_rh.map fun d => .ok d s := by kernel_rfl
def v_same_st : List D := [.tuple [.str "st", .str "lr"], .tuple [.str "st", .str "lr", .str "hr"], .tuple [.str "st", .str "lr", .str "rh"], .tuple [.str "st"], .tuple [.str "st", .str "lr", .str "hr", .str "mrl"], .tuple [.str "st", .str "icx", .str "hmrl"], .tuple [.str "st", .str "icx"], .tuple [.str "st", .str "icv"], .tuple [.str "st", .str "icv", .str "lt"], .tuple [.str "st", .str "mean"], .tuple [.str "st", .str "pr"], .tuple [.str "st", .str "median"], .tuple [.str "st", .str "icv", .str "lt", .str "least"], .tuple [.str "st", .str "icx", .str "most"]]
theorem tv_same_st (s : DS) : (w14.map fun y => S_chain_between cA 30 [.str "same", .str "st", .str y] s) = v_same_st.map fun d => .ok d s := by kernel_rfl
def v_same_mrl : List D := [.none, .none, .none, .none, .tuple [.str "mrl"], .tuple [.str "mrl", .str "hmrl"], .tuple [.str "mrl", .str "hmrl", .str "icx"], .none, .none, .tuple [.str "mrl", .str "mean"], .none, .none, .none, .tuple [.str "mrl", .str "hmrl", .str "icx", .str "most"]]
theorem tv_same_mrl (s : DS) : (w14.map fun y => S_chain_between cA 30 [.str "same", .str "mrl", .str y] s) = v_same_mrl.map fun d => .ok d s := by kernel_rfl
def v_same_hmrl : List D := [.none, .none, .none, .none, .none, .tuple [.str "hmrl"], .tuple [.str "hmrl", .str "icx"], .none, .none, .tuple [.str "hmrl", .str "mean"], .none, .none, .none, .tuple [.str "hmrl", .str "icx", .str "most"]]
theorem tv_same_hmrl (s : DS) : (w14.map fun y => S_chain_between cA 30 [.str "same", .str "hmrl", .str y] s) = v_same_hmrl.map fun d => .ok d s := by kernel_rfl
def v_same_icx : List D := [.none, .none, .none, .none, .none, .tuple [.str "icx", .str "hmrl"], .tuple [.str "icx"], .none, .none, .tuple [.str "icx", .str "mean"], .none, .none, .none, .tuple [.str "icx", .str "most"]]
theorem tv_same_icx (s : DS) : (w14.map fun y => S_chain_between cA 30 [.str "same", .str "icx", .str y] s) = v_same_icx.map fun d => .ok d s := by kernel_rfl
def v_same_icv : List D := [.none, .none, .none, .none, .none, .none, .none, .tuple [.str "icv"], .tuple [.str "icv", .str "lt"], .tuple [.str "icv", .str "mean"], .none, .none, .tuple [.str "icv", .str "lt", .str "least"], .none]
theorem tv_same_icv (s : DS) : (w14.map fun y => S_chain_between cA 30 [.str "same", .str "icv", .str y] s) = v_same_icv.map fun d => .ok d s := by kernel_rfl
def v_same_lt : List D := [.none, .none, .none, .none, .none, .none, .none, .none, .tuple [.str "lt"], .tuple [.str "lt", .str "mean"], .none, .none, .tuple [.str "lt", .str "least"], .none]
theorem tv_same_lt (s : DS) : (w14.map fun y => S_chain_between cA 30 [.str "same", .str "lt", .str y] s) = v_same_lt.map fun d => .ok d s := by kernel_rfl
def v_same_mean : List D := [.none, .none, .none, .none, .none, .none, .none, .none, .none, .tuple [.str "mean"], .none, .none, .none, .none]
theorem tv_same_mean (s : DS) : (w14.map fun y => S_chain_between cA 30 [.str "same", .str "mean", .str y] s) = v_same_mean.map fun d => .ok d s := by kernel_rfl
def v_same_pr : List D := [.none, .none, .none, .none, .none, .none, .none, .none, .none, .tuple [.str "pr", .str "mean"], .tuple [.str "pr"], .none, .none, .none]
theorem tv_same_pr (s : DS) : (w14.map fun y => S_chain_between cA 30 [.str "same", .str "pr", .str y] s) = v_same_pr.map fun d => .ok d s := by kernel_rfl
def v_same_median : List D := [.none, .none, .none, .none, .none, .none, .none, .none, .none, .tuple [.str "median", .str "mean"], .none, .tuple [.str "median"], .none, .none]
theorem tv_same_median (s : DS) : (w14.map fun y => S_chain_between cA 30 [.str "same", .str "median", .str y] s) = v_same_median.map fun d => .ok d s := by kernel_rfl
def v_same_least : List D := [.none, .none, .none, .none, .none, .none, .none, .none, .none, .tuple [.str "least", .str "mean"], .none, .none, .tuple [.str "least"], .none]
theorem tv_same_least (s : DS) : (w14.map fun y => S_chain_between cA 30 [.str "same", .str "least", .str y] s) = v_same_least.map fun d => .ok d s := by kernel_rfl
def v_same_most : List D := [.none, .none, .none, .none, .none, .none, .none, .none, .none, .tuple [.str "most", .str "mean"], .none, .none, .none, .tuple [.str "most"]]
theorem tv_same_most (s : DS) : (w14.map fun y => S_chain_between cA 30 [.str "same", .str "most", .str y] s) = v_same_most.map fun d => .ok d s := by kernel_rfl
def tab08 : List ((Str × Str) × List D) := [(("all", "lr"), v_all_lr), (("all", "hr"), v_all_hr), (("all", "rh"), v_all_rh), (("all", "st"), v_all_st), (("all", "mrl"), v_all_mrl), (("all", "hmrl"), v_all_hmrl), (("all", "icx"), v_all_icx), (("all", "icv"), v_all_icv), (("all", "lt"), v_all_lt), (("all", "mean"), v_all_mean), (("all", "pr"), v_all_pr), (("all", "median"), v_all_median), (("all", "least"), v_all_least), (("all", "most"), v_all_most), (("same", "lr"), v_same_lr), (("same", "hr"), v_same_hr), (("same", "rh"), v_same_rh), (("same", "st"), v_same_st), (("same", "mrl"), v_same_mrl), (("same", "hmrl"), v_same_hmrl), (("same", "icx"), v_same_icx), (("same", "icv"), v_same_icv), (("same", "lt"), v_same_lt), (("same", "mean"), v_same_mean), (("same", "pr"), v_same_pr), (("same", "median"), v_same_median), (("same", "least"), v_same_least), (("same", "most"), v_same_most)]
theorem tab_ok : ∀ e ∈ tab08, ∀ s : DS, (w14.map fun y => S_chain_between cA 30 [.str e.1.1, .str e.1.2, .str y] s) = e.2.map fun d => .ok d s := by
  intro e he s
  simp only [tab08, List.mem_cons, List.mem_nil_iff, or_false] at he
  rcases he with rfl | rfl | rfl | rfl | rfl | rfl | rfl | rfl | rfl | rfl | rfl | rfl | rfl | rfl | rfl | rfl | rfl | rfl | rfl | rfl | rfl | rfl | rfl | rfl | rfl | rfl | rfl | rfl
  · exact tv_all_lr s
  · exact tv_all_hr s
  · exact tv_all_rh s
  · exact tv_all_st s
  · exact tv_all_mrl s
  · exact tv_all_hmrl s
  · exact tv_all_icx s
  · exact tv_all_icv s
  · exact tv_all_lt s
  · exact tv_all_mean s
  · exact tv_all_pr s
  · exact tv_all_median s
  · exact tv_all_least s
  · exact tv_all_most s
  · exact tv_same_lr s
  · exact tv_same_hr s
  · exact tv_same_rh s
  · exact tv_same_st s
  · exact tv_same_mrl s
  · exact tv_same_hmrl s
  · exact tv_same_icx s
  · exact tv_same_icv s
  · exact tv_same_lt s
  · exact tv_same_mean s
  · exact tv_same_pr s
  · exact tv_same_median s
  · exact tv_same_least s
  · exact tv_same_most s
end Py

set_option Elab.async false
set_option linter.all false
set_option maxRecDepth 100000
namespace Py
open PySem
/-- what the one gives, the other gives -/
def Lf {α : Type} (m n : M α) : Prop := ∀ s r s', m s = .ok r s' → n s = .ok r s'
theorem Lf.refl {α : Type} (m : M α) : Lf m m := fun _ _ _ h => h
theorem Lf.bind {α β : Type} {m n : M α} {f g : α → M β} (h : Lf m n) (k : ∀ a, Lf (f a) (g a)) : Lf (m >>= f) (n >>= g) := fun s r s' e => by
  have e : M.bind m f s = .ok r s' := e
  show M.bind n g s = .ok r s'
  unfold M.bind at e ⊢
  cases hm : m s with
  | ok a s1 =>
    rw [hm] at e
    rw [h _ _ _ hm]
    exact k a _ _ _ e
  | exc x s1 => rw [hm] at e; cases e
  | fail => rw [hm] at e; cases e
theorem Lf.stE {α : Type} {m : M α} {σ : St} {f g : α → M Flow} (k : ∀ a, Lf (f a) (g a)) : Lf (stE m σ f) (stE m σ g) := fun s r s' e => by
  unfold Py.stE at e ⊢
  cases hm : m s with
  | ok a s1 =>
    rw [hm] at e
    exact k a _ _ _ e
  | exc x s1 => rw [hm] at e; exact e
  | fail => rw [hm] at e; cases e
theorem whileL_more (t : St → M Bool) (b : St → M Flow) : ∀ (n m : Nat) (σ : St), n ≤ m → Lf (whileL t b n σ) (whileL t b m σ)
  | 0, m, σ, _ => fun s r s' e => by cases e
  | n + 1, 0, σ, h => absurd h (by omega)
  | n + 1, m + 1, σ, h => by
    unfold whileL
    refine Lf.stE fun c => ?_
    split
    · refine Lf.bind (Lf.refl _) fun fl => ?_
      cases fl <;> first | exact Lf.refl _ | exact whileL_more t b n m _ (by omega)
    · exact Lf.refl _
theorem sWhile_more {c : St → M D} {b : St → M Flow} {n m : Nat} {σ : St} (h : n ≤ m) : Lf (sWhile c b n σ) (sWhile c b m σ) := whileL_more _ _ n m σ h
theorem thenF_lf {m n : M Flow} {f g : St → M Flow} (h : Lf m n) (k : ∀ σ, Lf (f σ) (g σ)) : Lf (thenF m f) (thenF n g) := by
  unfold thenF
  refine Lf.bind h fun fl => ?_
  cases fl <;> first | exact Lf.refl _ | exact k _
theorem runS_lf {fg : Flg} {np n : Nat} {f g : St → M Flow} (k : ∀ σ, Lf (f σ) (g σ)) (ds : List D) : Lf (runS fg np n f ds) (runS fg np n g ds) := by
  unfold runS
  split
  · refine Lf.bind ?_ fun _ => Lf.refl _
    intro s r s' e
    unfold quiet at e ⊢
    cases hm : f (startN n ds) s with
    | ok a s1 =>
      rw [hm] at e
      rw [k _ _ _ _ hm]
      exact e
    | exc x s1 => rw [hm] at e; first | (cases e; done) | (split at e <;> cases e)
    | fail => rw [hm] at e; cases e
  · exact Lf.refl _
def Sp_arrows_of (f : List D → M D) : Prop := f = fun xs => S_arrows_of nocall 0 xs
theorem s_arrows_of {call : Str → List D → M D} {w : Nat} : Sp_arrows_of (S_arrows_of call w) := rfl
def rlT (k : List (Str × Str)) : Nat → List Str → Nat → Option (List Str)
  | 0, _, _ => none
  | n + 1, found, at_ => if at_ < found.length then rlT k n (found ++ ((k.filter fun p => p.1 == found.getD at_ "" && !(found.any fun z => z == p.2)).map (·.2))) (at_ + 1) else some found
def aOf (k : Str) : List (Str × Str) := if k = "all" then aAll else aSame
def rch (k x y : Str) : Bool := match rlT (aOf k) 100 [x] 0 with
  | some l => l.any fun z => z == y
  | none => false
def isN : D → Bool
  | .none => true
  | _ => false
theorem tab_right : (tab08.all fun e => decide (e.2.length = 14) && (w14.zip e.2).all fun p => (match p.2 with | .none => !rch e.1.1 e.1.2 p.1 | .tuple _ => rch e.1.1 e.1.2 p.1 | _ => false)) = true := by decide +kernel
theorem tab_has : (["all", "same"] : List Str).all (fun k => w14.all fun x => tab08.any fun e => e.1 == (k, x)) = true := by decide +kernel
def kd (k : Str) : Prop := k = "all" ∨ k = "same"
theorem kd_in {k : Str} (h : kd k) : k ∈ (["all", "same"] : List Str) := by
  rcases h with rfl | rfl <;> simp
def Sp_chain_between (f : List D → M D) : Prop := ∀ k x y, kd k → x ∈ w14 → y ∈ w14 → ∃ d, f [.str k, .str x, .str y] = pure d ∧ ((d = .none ∧ rch k x y = false) ∨ ∃ l, d = .tuple l ∧ rch k x y = true)
theorem s_chain_between {call : Str → List D → M D} {w : Nat} (hw : 200 ≤ w) (h : Sp_arrows_of (call "arrows_of")) : Sp_chain_between (S_chain_between call w) := by
  intro k x y hk hx hy
  have hb2 : S_chain_between_b2 call w = S_chain_between_b2 cA 30 := by
    funext σ
    unfold S_chain_between_b2 callS
    rw [h]
    rfl
  have more : ∀ ds, Lf (S_chain_between cA 30 ds) (S_chain_between call w ds) := fun ds => by
    unfold S_chain_between
    rw [hb2]
    refine runS_lf (fun σ => thenF_lf (Lf.refl _) fun σ => thenF_lf (sWhile_more (by omega)) fun σ => thenF_lf (Lf.refl _) fun σ => thenF_lf (Lf.refl _) fun σ => thenF_lf (sWhile_more (by omega)) fun σ => Lf.refl _) ds
  obtain ⟨e, he, ek⟩ := List.any_eq_true.mp (List.all_eq_true.mp (List.all_eq_true.mp tab_has k (kd_in hk)) x hx)
  have ek : e.1 = (k, x) := by simpa using ek
  have hr := List.all_eq_true.mp tab_right e he
  rw [Bool.and_eq_true] at hr
  have h14 : e.2.length = 14 := by simpa using hr.1
  obtain ⟨i, hi, hiy⟩ := List.mem_iff_getElem.mp hy
  have hi14 : i < 14 := hi
  have hi2 : i < e.2.length := by omega
  refine ⟨e.2[i], ?_, ?_⟩
  · funext s
    have := tab_ok e he s
    rw [ek] at this
    have h1 := congrArg (fun l => l[i]?) this
    simp only [List.getElem?_map] at h1
    rw [List.getElem?_eq_getElem hi, List.getElem?_eq_getElem hi2, Option.map_some, Option.map_some, Option.some.injEq, hiy] at h1
    exact more _ _ _ _ h1
  · have h1 := List.all_eq_true.mp hr.2 (y, e.2[i]) (by
      refine List.mem_of_getElem? (i := i) ?_
      rw [List.getElem?_zip_eq_some]
      exact ⟨by rw [List.getElem?_eq_getElem hi, hiy], List.getElem?_eq_getElem hi2⟩)
    rw [ek] at h1
    simp only at h1
    split at h1
    · rename_i q; exact .inl ⟨q, by simpa using h1⟩
    · rename_i l q; exact .inr ⟨l, q, h1⟩
    · cases h1
def mal08 : Exc := ⟨"Malformed", []⟩
def bad08 : List D := [.str "", .str "ST", .none, .int 5, .tuple [.str "lr"], .int 0, .bool true, .str "some"]
def Sp_check_kind (f : List D → M D) : Prop := (∀ k, kd k → f [.str k] = pure .none) ∧ ∀ b ∈ bad08, f [b] = throwX mal08
theorem s_check_kind {call : Str → List D → M D} {w : Nat} : Sp_check_kind (S_check_kind call w) := by
  refine ⟨fun k hk => ?_, fun b hb => ?_⟩
  · rcases hk with rfl | rfl <;> funext s <;> kernel_rfl
  · simp only [bad08, List.mem_cons, List.mem_nil_iff, or_false] at hb
    rcases hb with rfl | rfl | rfl | rfl | rfl | rfl | rfl | rfl <;> funext s <;> kernel_rfl
def Sp_check_word (f : List D → M D) : Prop := (∀ x ∈ w14, f [.str x] = pure .none) ∧ ∀ b ∈ bad08, f [b] = throwX mal08
theorem s_check_word {call : Str → List D → M D} {w : Nat} : Sp_check_word (S_check_word call w) := by
  refine ⟨fun k hk => ?_, fun b hb => ?_⟩
  · simp only [w14, List.mem_cons, List.mem_nil_iff, or_false] at hk
    rcases hk with rfl | rfl | rfl | rfl | rfl | rfl | rfl | rfl | rfl | rfl | rfl | rfl | rfl | rfl <;> funext s <;> kernel_rfl
  · simp only [bad08, List.mem_cons, List.mem_nil_iff, or_false] at hb
    rcases hb with rfl | rfl | rfl | rfl | rfl | rfl | rfl | rfl <;> funext s <;> kernel_rfl
def Sp_check_pair (f : List D → M D) : Prop := (∀ k x y, kd k → x ∈ w14 → y ∈ w14 → f [.str k, .str x, .str y] = pure .none) ∧ (∀ b x y, b ∈ bad08 → f [b, x, y] = throwX mal08) ∧ (∀ k b y, kd k → b ∈ bad08 → f [.str k, b, y] = throwX mal08) ∧ ∀ k x b, kd k → x ∈ w14 → b ∈ bad08 → f [.str k, .str x, b] = throwX mal08
theorem bad_isl {b : D} (h : b ∈ bad08) : isL b = false := by
  simp only [bad08, List.mem_cons, List.mem_nil_iff, or_false] at h
  rcases h with rfl | rfl | rfl | rfl | rfl | rfl | rfl | rfl <;> rfl
theorem s_check_pair {call : Str → List D → M D} {w : Nat} (h1 : Sp_check_kind (call "check_kind")) (h2 : Sp_check_word (call "check_word")) : Sp_check_pair (S_check_pair call w) := by
  refine ⟨fun k x y hk hx hy => ?_, fun b x y hb => ?_, fun k b y hk hb => ?_, fun k x b hk hx hb => ?_⟩ <;> unfold S_check_pair <;> rw [runS_3]
  · simp [startN, callS, h1.1 k hk, h2.1 x hx, h2.1 y hy]
  · simp [startN, callS, h1.2 b hb, mal08]
  · simp [startN, callS, h1.1 k hk, h2.2 b hb, mal08]
  · simp [startN, callS, h1.1 k hk, h2.1 x hx, h2.2 b hb, mal08]
def prD (p : Str × Str) : D := .tuple [.str p.1, .str p.2]
def srA (k : Str) : List D := ((aOf k).map prD).mergeSort (PySem.W.dataLe false id)
theorem srt_ok {k : Str} (hk : kd k) : srtD ((aOf k).map prD) = pure (.list (srA k)) := by
  have : srtOk ((aOf k).map prD) = true := by rcases hk with rfl | rfl <;> decide +kernel
  unfold srtD
  rw [if_pos this]
  rfl
theorem bi_srtT (ds : List D) : bi "sorted" [.tuple ds] = srtD ds := of_eq_true (eq_self _)
theorem bi_srtL {ds : List D} (h : intsOf ds = none) : bi "sorted" [.list ds] = srtD ds := by
  show (match intsOf ds with | some ns => (pure (.list ((sortI ns).map .int)) : M D) | none => srtD ds) = _
  rw [h]
theorem a_ints {k : Str} (hk : kd k) : intsOf ((aOf k).map prD) = none := by rcases hk with rfl | rfl <;> kernel_rfl
def Sp_arrows (f : List D → M D) : Prop := (∀ k, kd k → f [.str k] = pure (.tuple (srA k))) ∧ ∀ b ∈ bad08, f [b] = throwX mal08
theorem ao_val {k : Str} (hk : kd k) : S_arrows_of nocall 0 [.str k] = pure (.tuple ((aOf k).map prD)) := by
  rcases hk with rfl | rfl <;> funext s <;> kernel_rfl
theorem s_arrows {call : Str → List D → M D} {w : Nat} (h1 : Sp_check_kind (call "check_kind")) (h2 : Sp_arrows_of (call "arrows_of")) : Sp_arrows (S_arrows call w) := by
  refine ⟨fun k hk => ?_, fun b hb => ?_⟩ <;> unfold S_arrows <;> rw [runS_1]
  · have e : call "arrows_of" [.str k] = pure (.tuple ((aOf k).map prD)) := by rw [h2]; exact ao_val hk
    have e2 := bi_srtT ((aOf k).map prD)
    rw [srt_ok hk] at e2
    simp [startN, callS, h1.1 k hk, e, biS, e2]
  · simp [startN, callS, h1.2 b hb, mal08]
def Sp_does_force (f : List D → M D) : Prop := (∀ k x y, kd k → x ∈ w14 → y ∈ w14 → f [.str k, .str x, .str y] = pure (.bool (rch k x y))) ∧ (∀ b x y, b ∈ bad08 → f [b, x, y] = throwX mal08) ∧ (∀ k b y, kd k → b ∈ bad08 → f [.str k, b, y] = throwX mal08) ∧ ∀ k x b, kd k → x ∈ w14 → b ∈ bad08 → f [.str k, .str x, b] = throwX mal08
theorem s_does_force {call : Str → List D → M D} {w : Nat} (h1 : Sp_check_pair (call "check_pair")) (h2 : Sp_chain_between (call "chain_between")) : Sp_does_force (S_does_force call w) := by
  refine ⟨fun k x y hk hx hy => ?_, fun b x y hb => ?_, fun k b y hk hb => ?_, fun k x b hk hx hb => ?_⟩ <;> unfold S_does_force <;> rw [runS_3]
  · obtain ⟨d, e, h | ⟨l, h⟩⟩ := h2 k x y hk hx hy
    · obtain ⟨rfl, h⟩ := h
      simp [startN, callS, h1.1 k x y hk hx hy, e, h]
    · obtain ⟨rfl, h⟩ := h
      simp [startN, callS, h1.1 k x y hk hx hy, e, h]
  · simp [startN, callS, h1.2.1 b x y hb, mal08]
  · simp [startN, callS, h1.2.2.1 k b y hk hb, mal08]
  · simp [startN, callS, h1.2.2.2 k x b hk hx hb, mal08]
def Sp_all_forced (f : List D → M D) : Prop := (∀ k x, kd k → x ∈ w14 → f [.str k, .str x] = pure (.tuple ((w14.filter (rch k x)).map .str))) ∧ (∀ b x, b ∈ bad08 → f [b, x] = throwX mal08) ∧ ∀ k b, kd k → b ∈ bad08 → f [.str k, b] = throwX mal08
theorem s_all_forced {call : Str → List D → M D} {w : Nat} (h1 : Sp_check_pair (call "check_pair")) (h2 : Sp_chain_between (call "chain_between")) : Sp_all_forced (S_all_forced call w) := by
  refine ⟨fun k x hk hx => ?_, fun b x hb => ?_, fun k b hk hb => ?_⟩ <;> unfold S_all_forced <;> rw [runS_2]
  · have cf := compS_filter (items := pure (w14.map .str)) (bind := fun d => bindG (.one 2) (wipe [some (.str k, false), some (.str x, false), none] [2]) d) (f := S_all_forced_i0 call w) (g := S_all_forced_e1 call w) w14 (fun z => .str z) (fun z => .str z) (rch k x) rfl (by decide) fun y hy => ⟨_, rfl, by
      obtain ⟨d, e, h | ⟨l, h⟩⟩ := h2 k x y hk hx hy
      · obtain ⟨rfl, h⟩ := h
        simp [S_all_forced_i0, callS, e, h]
      · obtain ⟨rfl, h⟩ := h
        simp [S_all_forced_i0, callS, e, h], fun _ => by simp [S_all_forced_e1]⟩
    have wd : (w14.map PyData.str) = [.str "lr", .str "hr", .str "rh", .str "st", .str "mrl", .str "hmrl", .str "icx", .str "icv", .str "lt", .str "mean", .str "pr", .str "median", .str "least", .str "most"] := rfl
    rw [wd] at cf
    simp at cf
    simp [startN, callS, h1.1 k x x hk hx hx, biS, cf]
  · simp [startN, callS, h1.2.1 b x x hb, mal08]
  · simp [startN, callS, h1.2.2.1 k b b hk hb, mal08]
end Py

set_option Elab.async false
set_option linter.all false
set_option maxRecDepth 100000
namespace Py
open PySem
def Sp__law_says (f : List D → M D) : Prop := ∀ a b : Bool, f [.bool a, .bool b] = pure (.bool (a == b))
theorem s__law_says {call : Str → List D → M D} {w : Nat} : Sp__law_says (S__law_says call w) := by
  intro a b
  unfold S__law_says
  rw [runS_2]
  simp [startN]
def Sp__law_words (f : List D → M D) : Prop := f [] = pure (.list (w14.map .str))
theorem s__law_words {call : Str → List D → M D} {w : Nat} : Sp__law_words (S__law_words call w) := by
  show S__law_words call w [] = _
  unfold S__law_words
  rw [runS_0]
  have e : met1S ("split" : Str) (pure (.str "lr hr rh st mrl hmrl icx icv lt mean pr median least most")) (pure (.str " ")) = pure (.list (w14.map .str)) := by kernel_rfl
  simp [startN, e]
def Sp__law_arrows (f : List D → M D) : Prop := ∀ k, kd k → f [.str k] = pure (.list ((aOf k).map prD))
theorem s__law_arrows {call : Str → List D → M D} {w : Nat} : Sp__law_arrows (S__law_arrows call w) := by
  intro k hk
  rcases hk with rfl | rfl <;> funext s <;> kernel_rfl
theorem w14_lay : ∀ z ∈ w14, PyData.canLay0 (.str z) = true := fun z hz => List.all_eq_true.mp (show w14.all (fun z => PyData.canLay0 (.str z)) = true by decide +kernel) z hz
theorem fineW {z : Str} (h : z ∈ w14) (n : Nat) : fine n (.str z) = true := by rw [fine_strE]; exact w14_lay z h
theorem eq_w {a b : Str} (ha : a ∈ w14) (hb : b ∈ w14) : eqD (.str a) (.str b) = pure (a == b) := eqD_str (w14_lay a ha) (w14_lay b hb)
theorem in_w {a : Str} {l : List Str} (ha : a ∈ w14) (hl : ∀ z ∈ l, z ∈ w14) : inD (.str a) (.list (l.map .str)) = pure (l.any fun z => z == a) := by
  have h1 : SeqAt.shaped (.str a) = true := by rw [shaped_fine]; exact fineW ha _
  have h2 : SeqAt.shaped (.list (l.map .str)) = true := by
    rw [shaped_fine, fine_list, List.all_map, List.all_eq_true]
    exact fun z hz => fineW (hl z hz) _
  show (if SeqAt.shaped (.str a) = true ∧ SeqAt.shaped (.list (l.map .str)) = true then (pure ((l.map .str).any fun z => PyData.eqv z (.str a)) : M Bool) else fail) = _
  rw [if_pos ⟨h1, h2⟩, List.any_map]
  rfl
theorem a_mem {k : Str} (hk : kd k) : ∀ p ∈ aOf k, p.1 ∈ w14 ∧ p.2 ∈ w14 := by
  have : (aOf k).all (fun p => decide (p.1 ∈ w14) && decide (p.2 ∈ w14)) = true := by rcases hk with rfl | rfl <;> decide +kernel
  intro p hp
  have := List.all_eq_true.mp this p hp
  simpa using this
theorem a_len {k : Str} (hk : kd k) : (aOf k).length ≤ 29 := by rcases hk with rfl | rfl <;> decide
def nw (k : Str) (found : List Str) (i : Nat) : List Str := ((aOf k).filter fun p => p.1 == found.getD i "" && !(found.any fun z => z == p.2)).map (·.2)
def st08 (k x : Str) (found : List Str) (i : Nat) : St := [some (.str k, false), some (.str x, false), some (.list (found.map .str), true), some (.int (i : Int), false), none, none]
section
variable {call : Str → List D → M D} {w : Nat}
theorem nw_mem {k : Str} (hk : kd k) {found : List Str} {i : Nat} : ∀ z ∈ nw k found i, z ∈ w14 := fun z hz => by
  unfold nw at hz
  obtain ⟨p, hp, rfl⟩ := List.mem_map.mp hz
  exact (a_mem hk p (List.mem_filter.mp hp).1).2
theorem nw_len {k : Str} (hk : kd k) (found : List Str) (i : Nat) : (nw k found i).length ≤ 29 := by
  unfold nw
  rw [List.length_map]
  exact Nat.le_trans (List.length_filter_le ..) (a_len hk)
theorem reach_step (h : Sp__law_arrows (call "_law_arrows")) {k x : Str} (hk : kd k) {found : List Str} (hf : ∀ z ∈ found, z ∈ w14) {i : Nat} (hi : i < found.length) (hl : found.length ≤ 9971) :
    S__law_reached_b3 call w (st08 k x found i) = pure (.nx (st08 k x (found ++ nw k found i) (i + 1))) := by
  have gi : getD' (.list (found.map .str)) (.int (i : Int)) = pure (.str (found.getD i "")) := by
    rw [getL_sel (by omega) (by rw [List.length_map]; omega)]
    unfold sel
    rw [Int.toNat_natCast, List.getD_eq_getElem?_getD, List.getD_eq_getElem?_getD, List.getElem?_map, List.getElem?_eq_getElem hi]
    rfl
  have fm : found.getD i "" ∈ w14 := by
    rw [List.getD_eq_getElem?_getD, List.getElem?_eq_getElem hi]
    exact hf _ (List.getElem_mem hi)
  have cf := compS_filter (items := pure ((aOf k).map prD)) (bind := fun d => bindG (.many [4, 5]) (wipe (st08 k x found i) [4, 5]) d) (f := S__law_reached_i1 call w) (g := S__law_reached_e2 call w) (aOf k) prD (fun p => .str p.2) (fun p => p.1 == found.getD i "" && !(found.any fun z => z == p.2)) rfl (sl (by have := a_len hk; omega)) fun p hp => ⟨_, rfl, by
    obtain ⟨m1, m2⟩ := a_mem hk p hp
    have e1 := eq_w m1 fm
    have e2 := in_w m2 hf
    generalize found.getD i "" = c at *
    cases hb : p.1 == c <;> rw [hb] at e1 <;> simp [S__law_reached_i1, st08, gi, e1, e2, andS], fun _ => by simp [S__law_reached_e2, st08]⟩
  have e : ((aOf k).filter fun p => p.1 == found.getD i "" && !(found.any fun z => z == p.2)).map (fun p => PyData.str p.2) = (nw k found i).map .str := by
    unfold nw
    rw [List.map_map]
    rfl
  rw [e] at cf
  have ad : binop .Add (.list (found.map .str)) (.list ((nw k found i).map .str)) = pure (.list ((found ++ nw k found i).map .str)) := by
    rw [binop_addL (sl (by have := nw_len hk found i; simp; omega)), List.map_append]
  have h1 := h k hk
  unfold st08 at cf ⊢
  simp at cf
  simp [S__law_reached_b3, callS, h1, cf, ad]
theorem reach_loop (h : Sp__law_arrows (call "_law_arrows")) {k x : Str} (hk : kd k) : ∀ (n m : Nat) (found : List Str) (i : Nat) (l : List Str), (∀ z ∈ found, z ∈ w14) → found.length + 29 * n ≤ 10000 → n ≤ m → rlT (aOf k) n found i = some l →
    (∀ z ∈ l, z ∈ w14) ∧ ∃ j, sWhile (S__law_reached_c0 call w) (S__law_reached_b3 call w) m (st08 k x found i) = pure (.nx (st08 k x l j))
  | 0, m, found, i, l, hf, hl, hm, e => by cases e
  | n + 1, 0, found, i, l, hf, hl, hm, e => absurd hm (by omega)
  | n + 1, m + 1, found, i, l, hf, hl, hm, e => by
    unfold rlT at e
    have hc : tstS (S__law_reached_c0 call w (st08 k x found i)) = pure (decide (i < found.length)) := by
      simp [S__law_reached_c0, st08, biS]
    by_cases hi : i < found.length
    · rw [if_pos hi] at e
      have hn := nw_len hk found i
      obtain ⟨h1, j, ih⟩ := reach_loop h (x := x) hk n m (found ++ nw k found i) (i + 1) l (fun z hz => (List.mem_append.mp hz).elim (hf z) (nw_mem hk z)) (by rw [List.length_append]; omega) (by omega) e
      refine ⟨h1, j, ?_⟩
      unfold sWhile whileL
      rw [hc, decide_eq_true hi]
      simp only [stE_pure, if_true]
      rw [reach_step h hk hf hi (by omega), pure_bd]
      unfold sWhile at ih
      exact ih
    · rw [if_neg hi] at e
      cases e
      refine ⟨hf, i, ?_⟩
      unfold sWhile whileL
      rw [hc, decide_eq_false hi]
      simp
def Sp__law_reached (f : List D → M D) : Prop := ∀ k x, kd k → x ∈ w14 → ∃ l : List Str, f [.str k, .str x] = pure (.list (l.map .str)) ∧ (∀ z ∈ l, z ∈ w14) ∧ ∀ y, (l.any fun z => z == y) = rch k x y
theorem s__law_reached (hw : 200 ≤ w) (h : Sp__law_arrows (call "_law_arrows")) : Sp__law_reached (S__law_reached call w) := by
  intro k x hk hx
  have hs : (rlT (aOf k) 100 [x] 0).isSome = true := by
    have : (["all", "same"] : List Str).all (fun k => w14.all fun x => (rlT (aOf k) 100 [x] 0).isSome) = true := by decide +kernel
    exact List.all_eq_true.mp (List.all_eq_true.mp this k (kd_in hk)) x hx
  obtain ⟨l, hl⟩ := Option.isSome_iff_exists.mp hs
  obtain ⟨h1, j, e⟩ := reach_loop (w := w) h (x := x) hk 100 (w + msr (st08 k x [x] 0)) [x] 0 l (fun z hz => by simp at hz; rw [hz]; exact hx) (by simp) (by omega) hl
  refine ⟨l, ?_, h1, fun y => by unfold rch; rw [hl]⟩
  unfold S__law_reached
  rw [runS_2]
  unfold st08 at e
  simp at e
  simp [startN, lstS, sline, e, sRetN, ownI]
def malD : D := .str "<malformed>"
def Sp__law_told08 (f : List D → M D) : Prop :=
  (∀ k, kd k → ∀ x y, f [.int 0, .str k, x, y] = pure (.tuple (srA k))) ∧
  (∀ k x y, kd k → x ∈ w14 → y ∈ w14 → f [.int 1, .str k, .str x, .str y] = pure (.bool (rch k x y))) ∧
  (∀ k x y, kd k → x ∈ w14 → f [.int 2, .str k, .str x, y] = pure (.tuple ((w14.filter (rch k x)).map .str))) ∧
  (∀ b ∈ bad08, ∀ i : Int, i = 0 ∨ i = 1 ∨ i = 2 → ∀ x y, f [.int i, b, x, y] = pure malD) ∧
  (∀ k b y, kd k → b ∈ bad08 → f [.int 1, .str k, b, y] = pure malD) ∧ (∀ k x b, kd k → x ∈ w14 → b ∈ bad08 → f [.int 1, .str k, .str x, b] = pure malD) ∧ ∀ k b y, kd k → b ∈ bad08 → f [.int 2, .str k, b, y] = pure malD
theorem s__law_told08 (h0 : Sp_arrows (call "arrows")) (h1 : Sp_does_force (call "does_force")) (h2 : Sp_all_forced (call "all_forced")) : Sp__law_told08 (S__law_told call w) := by
  refine ⟨fun k hk x y => ?_, fun k x y hk hx hy => ?_, fun k x y hk hx => ?_, fun b hb i hi x y => ?_, fun k b y hk hb => ?_, fun k x b hk hx hb => ?_, fun k b y hk hb => ?_⟩ <;> unfold S__law_told <;> rw [runS_4]
  · simp [startN, callS, h0.1 k hk]
  · simp [startN, callS, h1.1 k x y hk hx hy]
  · simp [startN, callS, h2.1 k x hk hx]
  · rcases hi with rfl | rfl | rfl
    · simp [startN, callS, h0.2 b hb, mal08, sRet]
      (rw [catch_rz malD (by decide +kernel) (by simp) rfl (by kernel_rfl)]; simp)
    · simp [startN, callS, h1.2.1 b x y hb, mal08, sRet]
      (rw [catch_rz malD (by decide +kernel) (by simp) rfl (by kernel_rfl)]; simp)
    · simp [startN, callS, h2.2.1 b x hb, mal08, sRet]
      (rw [catch_rz malD (by decide +kernel) (by simp) rfl (by kernel_rfl)]; simp)
  · simp [startN, callS, h1.2.2.1 k b y hk hb, mal08, sRet]
    (rw [catch_rz malD (by decide +kernel) (by simp) rfl (by kernel_rfl)]; simp)
  · simp [startN, callS, h1.2.2.2 k x b hk hx hb, mal08, sRet]
    (rw [catch_rz malD (by decide +kernel) (by simp) rfl (by kernel_rfl)]; simp)
  · simp [startN, callS, h2.2.2 k b hk hb, mal08, sRet]
    (rw [catch_rz malD (by decide +kernel) (by simp) rfl (by kernel_rfl)]; simp)
end
end Py

set_option Elab.async false
set_option linter.all false
set_option maxRecDepth 100000
namespace Py
open PySem
def S_law_i0 (call : Str → List D → M D) (w : Nat) (σ : St) : M Bool :=
  tstS (cmp1 (rd σ 9) (rd σ 6) .In)
def S_law_e1 (call : Str → List D → M D) (w : Nat) (σ : St) : M D :=
  (rdV σ 9)
def S_law_b2 (call : Str → List D → M D) (w : Nat) (σ : St) : M Flow :=
  thenF (sIf σ (notS (callS call ("_law_says" : Str) [(callS call ("_law_told" : Str) [(pure (.int 1)), (rdV σ 2), (rdV σ 5), (rdV σ 7)]), (cmp1 (rd σ 7) (rd σ 6) .In)]))
  (thenF (sRet (frz σ [0, 1, 2, 3, 4, 5, 6, 7]) (pure (.bool false)) false) fun σ =>
    sEnd σ)
  (sEnd σ)) fun σ =>
  sEnd σ
def S_law_k3 (call : Str → List D → M D) (w : Nat) (σ : St) : M Flow :=
  thenF (sFor σ (dataI (call0S call ("_law_words" : Str))) (.one 7) (S_law_b2 call w)) fun σ =>
  sEnd σ
def S_law_k4 (call : Str → List D → M D) (w : Nat) (σ : St) : M Flow :=
  thenF (sIf σ (cmp1 (callS call ("_law_told" : Str) [(pure (.int 2)), (rdV σ 2), (rdV σ 5), (pure (.str ""))]) (biS ("tuple" : Str) [(compS (dataI (call0S call ("_law_words" : Str))) (fun d => bindG (.one 9) (wipe σ [9]) d) (S_law_i0 call w) (S_law_e1 call w))]) .NotEq)
  (thenF (sRet (frz σ [0, 1, 2, 3, 4, 5, 6, 7]) (pure (.bool false)) false) fun σ =>
    sEnd σ)
  (sEnd σ)) (S_law_k3 call w)
def S_law_k5 (call : Str → List D → M D) (w : Nat) (σ : St) : M Flow :=
  thenF (sAsg (frz σ [2, 5]) (callS call ("_law_reached" : Str) [(rdV (frz σ [2, 5]) 2), (rdV (frz σ [2, 5]) 5)]) 6 false) (S_law_k4 call w)
def S_law_b6 (call : Str → List D → M D) (w : Nat) (σ : St) : M Flow :=
  thenF (sAsg σ (ixS (call0S call ("_law_words" : Str)) (callF call ("_law_take" : Str) [(rd σ 1), (pure (.int 14))])) 5 false) (S_law_k5 call w)
def S_law_k7 (call : Str → List D → M D) (w : Nat) (σ : St) : M Flow :=
  thenF (sFor σ (iterS ("range" : Str) [(pure (.int 4))]) (.one 4) (S_law_b6 call w)) fun σ =>
  sEnd σ
def S_law_b8 (call : Str → List D → M D) (w : Nat) (σ : St) : M Flow :=
  thenF (sIf σ (cmp1 (callS call ("_law_told" : Str) [(pure (.int 0)), (rdV σ 2), (pure (.str "")), (pure (.str ""))]) (biS ("tuple" : Str) [(biS ("sorted" : Str) [(callS call ("_law_arrows" : Str) [(rdV σ 2)])])]) .NotEq)
  (thenF (sRet (frz σ [0, 1, 2, 3, 4, 5, 6, 7]) (pure (.bool false)) false) fun σ =>
    sEnd σ)
  (sEnd σ)) (S_law_k7 call w)
def S_law_e9 (call : Str → List D → M D) (w : Nat) (σ : St) : M D :=
  (callS call ("_law_told" : Str) [(rdV σ 8), (rdV σ 3), (pure (.str "st")), (pure (.str "st"))])
def S_law_k10 (call : Str → List D → M D) (w : Nat) (σ : St) : M Flow :=
  thenF (sIf σ (cmp1 (lstS [(callS call ("_law_told" : Str) [(pure (.int 1)), (pure (.str "all")), (rdV σ 3), (pure (.str "st"))]), (callS call ("_law_told" : Str) [(pure (.int 1)), (pure (.str "same")), (pure (.str "st")), (rdV σ 3)]), (callS call ("_law_told" : Str) [(pure (.int 2)), (pure (.str "all")), (rdV σ 3), (pure (.str ""))])]) (binS .Mult (lstS [(pure (.str "<malformed>"))]) (pure (.int 3))) .NotEq)
  (thenF (sRet (frz σ [0, 1, 2, 3, 4, 5, 6, 7]) (pure (.bool false)) false) fun σ =>
    sEnd σ)
  (sEnd σ)) fun σ =>
  sEnd σ
def S_law_b11 (call : Str → List D → M D) (w : Nat) (σ : St) : M Flow :=
  thenF (sIf σ (cmp1 (compS (iterS ("range" : Str) [(pure (.int 3))]) (fun d => bindG (.one 8) (wipe σ [8]) d) (fun _ => pure true) (S_law_e9 call w)) (binS .Mult (lstS [(pure (.str "<malformed>"))]) (pure (.int 3))) .NotEq)
  (thenF (sRet (frz σ [0, 1, 2, 3, 4, 5, 6, 7]) (pure (.bool false)) false) fun σ =>
    sEnd σ)
  (sEnd σ)) (S_law_k10 call w)
def S_law_k12 (call : Str → List D → M D) (w : Nat) (σ : St) : M Flow :=
  thenF (sRet (frz σ [0, 1, 2, 3, 4, 5, 6, 7]) (pure (.bool true)) false) fun σ =>
  sEnd σ
def S_law_k13 (call : Str → List D → M D) (w : Nat) (σ : St) : M Flow :=
  thenF (sFor σ (dataI (lstS [(pure (.str "")), (pure (.str "ST")), (pure (.none)), (pure (.int 5)), (tupS [(pure (.str "lr"))]), (pure (.int 0)), (pure (.bool true)), (pure (.str "some"))])) (.one 3) (S_law_b11 call w)) (S_law_k12 call w)
def nLaw : List Str := ["script", "draw", "kind", "bad", "turn", "x", "reached", "y", "which", "word"]
def S_law (call : Str → List D → M D) (w : Nat) (σ : St) : M Flow :=
  thenF (sFor σ (dataI (lstS [(pure (.str "all")), (pure (.str "same"))])) (.one 2) (S_law_b8 call w)) (S_law_k13 call w)
theorem srA_fine {k : Str} (hk : kd k) : fine 64 (.tuple (srA k)) = true := by
  rw [fine_tuple, List.all_eq_true]
  intro d hd
  unfold srA at hd
  obtain ⟨p, hp, rfl⟩ := List.mem_map.mp (List.mem_mergeSort.mp hd)
  obtain ⟨m1, m2⟩ := a_mem hk p hp
  unfold prD
  rw [fine_tuple]
  simp [fineW m1, fineW m2]
theorem ws_fine (l : List Str) (h : ∀ z ∈ l, z ∈ w14) : fine 64 (.tuple (l.map .str)) = true := by
  rw [fine_tuple, List.all_map, List.all_eq_true]
  exact fun z hz => fineW (h z hz) _
def st8 (a2 a3 a4 a5 a6 a7 : Sl) : St := [none, some (tok, false), a2, a3, a4, a5, a6, a7, none, none]
def I8 (σ : St) (s : DS) : Prop := OkS s ∧ ∃ a2 a3 a4 a5 a6 a7 : Sl, σ = st8 a2 a3 a4 a5 a6 a7
def K8 (k : Str) (σ : St) (s : DS) : Prop := OkS s ∧ ∃ a4 a5 a6 a7 : Sl, σ = st8 (some (.str k, false)) none a4 a5 a6 a7
def Y8 (k x : Str) (l : List Str) (σ : St) (s : DS) : Prop := OkS s ∧ ∃ a4 a7 : Sl, σ = st8 (some (.str k, false)) none a4 (some (.str x, false)) (some (.list (l.map .str), false)) a7
section
variable {call : Str → List D → M D} {w : Nat}
theorem y_step (h0 : Sp__law_says (call "_law_says")) (h1 : Sp__law_told08 (call "_law_told")) {k x y : Str} (hk : kd k) (hx : x ∈ w14) (hy : y ∈ w14) {l : List Str} (hl : ∀ z ∈ l, z ∈ w14) (hr : ∀ y, (l.any fun z => z == y) = rch k x y) (a4 : Sl) {s : DS} (hs : OkS s) :
    (S_law_b2 call w (st8 (some (.str k, false)) none a4 (some (.str x, false)) (some (.list (l.map .str), false)) (some (.str y, false))) s).sat (NC (Y8 k x l)) := by
  have e1 := h1.2.1 k x y hk hx hy
  have e2 := in_w hy hl
  rw [hr] at e2
  have e3 := h0 (rch k x y) (rch k x y)
  simp at e3
  simp [S_law_b2, st8, callS, e1, e2, e3]
  exact ⟨hs, _, _, rfl⟩
theorem turn_step (ht : call "_law_take" = takeP) (h0 : Sp__law_says (call "_law_says")) (h1 : Sp__law_told08 (call "_law_told")) (h2 : Sp__law_words (call "_law_words")) (h3 : Sp__law_reached (call "_law_reached")) {k : Str} (hk : kd k) (a4 a5 a6 a7 : Sl) {s : DS} (hs : OkS s) :
    (S_law_b6 call w (st8 (some (.str k, false)) none a4 a5 a6 a7) s).sat (NC (K8 k)) := by
  have t0 := tv_lo (n := 14) (s := s) (by decide)
  have t1 := tv_hi (n := 14) (s := s) (by decide)
  have hs1 := OkS_ts (n := 14) hs
  have gx := getL_sel (ds := w14.map .str) t0 (by simpa [w14] using t1)
  have hm := sel_mem (ds := w14.map .str) t0 (by simpa [w14] using t1)
  generalize sel (w14.map .str) (tv 14 s) = dx at *
  obtain ⟨x, hx, rfl⟩ := List.mem_map.mp hm
  obtain ⟨l, e3, hl, hr⟩ := h3 k x hk hx
  have e2 := h1.2.2.1 k x (.str "") hk hx
  have cf := compS_filter (items := pure (w14.map .str)) (bind := fun d => bindG (.one 9) (wipe (st8 (some (.str k, false)) none a4 (some (.str x, false)) (some (.list (l.map .str), false)) a7) [9]) d) (f := S_law_i0 call w) (g := S_law_e1 call w) w14 (fun z => .str z) (fun z => .str z) (rch k x) rfl (by decide) fun y hy => ⟨_, rfl, by
    have e2 := in_w hy hl
    rw [hr] at e2
    simp [S_law_i0, st8, e2], fun _ => by simp [S_law_e1, st8]⟩
  have q := eqD_self (ws_fine (w14.filter (rch k x)) fun z hz => (List.mem_filter.mp hz).1)
  have lp := forL_at (fun (y : Str) => PyData.str y) (bind := bindG (.one 7)) (b := S_law_b2 call w) w14 (fun _ => Y8 k x l) (fun i y σ s hi ⟨hs, a4, a7, e⟩ => by
    subst e
    exact ⟨_, rfl, y_step h0 h1 hk hx (List.mem_of_getElem? hi) hl hr a4 hs⟩) (σ := st8 (some (.str k, false)) none a4 (some (.str x, false)) (some (.list (l.map .str), false)) a7) (s := ts 14 s) ⟨hs1, a4, a7, rfl⟩
  obtain ⟨fl, s3, e4, hI⟩ := lp.ex
  cases fl with
  | nx σ' =>
    obtain ⟨hs3, b4, b7, rfl⟩ := hI
    have hend : K8 k (st8 (some (.str k, false)) none b4 (some (.str x, false)) (some (.list (l.map .str), false)) b7) s3 := ⟨hs3, _, _, _, _, rfl⟩
    have h2 : call "_law_words" [] = pure (.list (w14.map .str)) := h2
    unfold st8 at cf e4 hend ⊢
    generalize hW : w14.map PyData.str = WD at *
    simp at cf
    simp [S_law_b6, bd_at, stE_at, thenF_at, quiet_at, ifeS, tstS, cmp1, cmp2, binS, ixS, slS, optS, biS, callS, lstS, tupS, iterS, evsS_cons, asBool, asInt, sFor, sAsg, sIf, sRet, sExp, sTup, negS, notS, andS, orS, callF_eq, call0S, h2, take_T ht hs, gx, S_law_k5, callS, e3, S_law_k4, e2, biS, cf, q, S_law_k3, e4]
    exact hend
  | _ => exact hI.elim
theorem kind_step (ht : call "_law_take" = takeP) (h0 : Sp__law_says (call "_law_says")) (h1 : Sp__law_told08 (call "_law_told")) (h2 : Sp__law_words (call "_law_words")) (h3 : Sp__law_reached (call "_law_reached")) (h4 : Sp__law_arrows (call "_law_arrows")) {k : Str} (hk : kd k) (a4 a5 a6 a7 : Sl) {s : DS} (hs : OkS s) :
    (S_law_b8 call w (st8 (some (.str k, false)) none a4 a5 a6 a7) s).sat (NC (K8 k)) := by
  have e1 := h1.1 k hk (.str "") (.str "")
  have e2 := h4 k hk
  have e3 := bi_srtL (a_ints hk)
  rw [srt_ok hk] at e3
  have q := eqD_self (srA_fine hk)
  have r4 := rangeN (n := 4) (by decide)
  have lp := forL_at (fun (i : Nat) => PyData.int (i : Int)) (bind := bindG (.one 4)) (b := S_law_b6 call w) (List.range 4) (fun _ => K8 k) (fun i y σ s hi ⟨hs, a4, a5, a6, a7, e⟩ => by
    subst e
    exact ⟨_, rfl, turn_step ht h0 h1 h2 h3 hk _ a5 a6 a7 hs⟩) (σ := st8 (some (.str k, false)) none a4 a5 a6 a7) (s := s) ⟨hs, a4, a5, a6, a7, rfl⟩
  obtain ⟨fl, s3, e4, hI⟩ := lp.ex
  cases fl with
  | nx σ' =>
    unfold st8 at e4 ⊢
    simp at e4 r4
    simp [S_law_b8, bd_at, stE_at, thenF_at, quiet_at, ifeS, tstS, cmp1, cmp2, binS, ixS, slS, optS, biS, callS, lstS, tupS, iterS, evsS_cons, asBool, asInt, sFor, sAsg, sIf, sRet, sExp, sTup, negS, notS, andS, orS, callF_eq, callS, e1, e2, biS, e3, q, S_law_k7, iterS, r4, e4]
    exact hI
  | _ => exact hI.elim
theorem bad_step (h1 : Sp__law_told08 (call "_law_told")) {b : D} (hb : b ∈ bad08) (a2 a4 a5 a6 a7 : Sl) {s : DS} (hs : OkS s) :
    (S_law_b11 call w (st8 a2 (some (b, false)) a4 a5 a6 a7) s).sat (NC I8) := by
  have st : ("st" : Str) ∈ w14 := by decide +kernel
  have e1 := fun i hi => h1.2.2.2.1 b hb i hi (.str "st") (.str "st")
  have e2 := h1.2.2.2.2.1 "all" b (.str "st") (.inl rfl) hb
  have e3 := h1.2.2.2.2.2.1 "same" "st" b (.inr rfl) st hb
  have e4 := h1.2.2.2.2.2.2 "all" b (.str "") (.inl rfl) hb
  have r3 := rangeN (n := 3) (by decide)
  have bl := bad_isl hb
  have cm := compS_map (items := pure ((List.range 3).map fun (i : Nat) => PyData.int (i : Int))) (bind := fun d => bindG (.one 8) (wipe (st8 a2 (some (b, false)) a4 a5 a6 a7) [8]) d) (g := S_law_e9 call w) (List.range 3) (fun (i : Nat) => PyData.int (i : Int)) (fun _ => malD) rfl (by decide) fun i hi => ⟨_, rfl, by
    have hi := List.mem_range.mp hi
    have := e1 (i : Int) (by omega)
    simp [S_law_e9, st8, callS, this]⟩
  have m3 : binop .Mult (.list [malD]) (.int 3) = pure (.list [malD, malD, malD]) := by kernel_rfl
  have q3 : eqD (.list [malD, malD, malD]) (.list [malD, malD, malD]) = pure true := by kernel_rfl
  have rl : (List.range 3).map (fun _ => malD) = [malD, malD, malD] := rfl
  rw [rl] at cm
  unfold st8 at cm ⊢
  simp at cm r3
  unfold malD at *
  simp [S_law_b11, iterS, r3, cm, lstS, sline, m3, q3, S_law_k10, callS, e2, e3, e4]
  exact ⟨hs, _, _, _, _, _, _, rfl⟩
theorem run_law (ht : call "_law_take" = takeP) (h0 : Sp__law_says (call "_law_says")) (h1 : Sp__law_told08 (call "_law_told")) (h2 : Sp__law_words (call "_law_words")) (h3 : Sp__law_reached (call "_law_reached")) (h4 : Sp__law_arrows (call "_law_arrows"))
    {s : DS} (hs : OkS s) : (S_law call w (startL 10) s).sat fun fl _ => ∃ o, fl = .ret (.bool true) o := by
  have hdl : dataI (lstS [(pure (.str "all")), (pure (.str "same"))]) = (pure ((["all", "same"] : List Str).map PyData.str) : M (List D)) := by simp [lstS, sline]
  have hbl : dataI (lstS [(pure (.str "")), (pure (.str "ST")), (pure (.none)), (pure (.int 5)), (tupS [(pure (.str "lr"))]), (pure (.int 0)), (pure (.bool true)), (pure (.str "some"))]) = (pure (bad08.map id) : M (List D)) := by simp [lstS, tupS, sline, bad08]
  simp only [S_law, startL, hdl, sFor_pure]
  rw [thenF_at]
  refine Res.sat.fl (forL_at PyData.str (["all", "same"] : List Str) (fun _ σ s => OkS s ∧ ∃ a2 a4 a5 a6 a7 : Sl, σ = st8 a2 none a4 a5 a6 a7) (fun i k σ s hi ⟨hs, a2, a4, a5, a6, a7, e⟩ => ?_) ⟨hs, none, none, none, none, none, rfl⟩) fun σ s ⟨hs, a2, a4, a5, a6, a7, e⟩ => ?_
  · subst e
    have hk : kd k := by
      have := List.mem_of_getElem? hi
      simpa [kd] using this
    refine ⟨_, rfl, Res.sat.mono (kind_step (w := w) ht h0 h1 h2 h3 h4 hk a4 a5 a6 a7 hs) fun fl s h => ?_⟩
    cases fl with
    | nx σ => obtain ⟨hs, b4, b5, b6, b7, e⟩ := h; exact ⟨hs, _, b4, b5, b6, b7, e⟩
    | ct σ => obtain ⟨hs, b4, b5, b6, b7, e⟩ := h; exact ⟨hs, _, b4, b5, b6, b7, e⟩
    | _ => exact h.elim
  · subst e
    simp only [S_law_k13, hbl, sFor_pure]
    rw [thenF_at]
    refine Res.sat.fl (forL_at id bad08 (fun _ => I8) (fun i b σ s hi ⟨hs, a2, a3, a4, a5, a6, a7, e⟩ => ?_) ⟨hs, a2, none, a4, a5, a6, a7, rfl⟩) fun σ s ⟨hs, a2, a3, a4, a5, a6, a7, e⟩ => ?_
    · subst e
      exact ⟨_, rfl, bad_step h1 (List.mem_of_getElem? hi) a2 a4 a5 a6 a7 hs⟩
    · subst e
      simp [S_law_k12, st8]
end
end Py

set_option Elab.async false
set_option linter.all false
set_option maxRecDepth 100000
namespace Py
open PySem
open PySem.Spec PyProof.Rows L2
section
variable {K : PySem.W.Frag} {mg : Str → Option Value} {h : Heap}
/-- a def of the top -/
structure DefIn (K : PySem.W.Frag) (x : Str) (st : Stmt) (nm : Str := x) : Prop where
  ex : ∃ (f : Addr) (oc : Value) (od an : Option Addr) (osl : Array (Option Value)) (kV doc pm cdv ct : Value), PySem.W.nsIn K mainGlobals x = some (some (.ref f)) ∧ K.lookup f = some ⟨oc, od, .func (PySem.W.fnOf nm nm (defArgs st) (defBody st) (defScope st) .none kV doc pm an cdv ct), osl⟩ ∧ PySem.W.codeIn K cdv nm = true ∧ PySem.W.keepIn K (.ref f) = true
theorem def_mk {x nm : Str} {st : Stmt} {f : Addr} {oc : Value} {od an : Option Addr} {osl : Array (Option Value)} {kV doc pm cdv ct : Value} (a : PySem.W.nsIn K mainGlobals x = some (some (.ref f))) (l : K.lookup f = some ⟨oc, od, .func (PySem.W.fnOf nm nm (defArgs st) (defBody st) (defScope st) .none kV doc pm an cdv ct), osl⟩)
    (c : PySem.W.codeIn K cdv nm = true) (k : PySem.W.keepIn K (.ref f) = true) : DefIn K x st nm := ⟨f, oc, od, an, osl, kV, doc, pm, cdv, ct, a, l, c, k⟩
theorem DefIn.fn {x nm : Str} {st : Stmt} (d : DefIn K x st nm) (X : K.In h) (G : h.Ns mainGlobals mg) (ps : List Str) (hb : ∀ (kV doc pm : Value) (an : Option Addr) (cdv ct : Value) (us : List Value), us.length = ps.length → bindArgs (PySem.W.fnOf nm nm (defArgs st) (defBody st) (defScope st) .none kV doc pm an cdv ct) ⟨us, []⟩ = pure (ps.zip us)) :
    ∃ f fd, L2.Fun K nm nm st f fd ∧ mg x = some (.ref f) ∧ Binds K fd ps [] := by
  obtain ⟨f, oc, od, an, osl, kV, doc, pm, cdv, ct, a, l, c, k⟩ := d.ex
  have F := fun_mk l c k
  exact ⟨f, _, F, PySem.W.mg_of X G a, F.binds hb⟩
/-- an error class of the top that keeps its reason -/
def RefIn (K : PySem.W.Frag) (C : Addr) (file : Str) : Prop := ∀ prog : Program, ((prog.main.file : Str) == file) = true → (prog.main.scope.names.lookup ("super" : Str)).isSome = false → ∃ fI, PySem.RefX.RefTxt prog K C fI
theorem ref_mk {C fI cda cc N : Addr} {nm q : Str} {bs bm : List Value} {sn : List Str} {sub : List Value} {ab : Bool} {col : Option Bool} {dd : Option Addr} {k0 k1 k2 k3 k5 : Option Value} {oc doc pm ct ccl cl : Value} {od an cdd cld : Option Addr} {osl ccs csl : Array (Option Value)} {p1 p2 a1 a2 a3 a4 a5 a6 q1 q2 q3 q4 : Pos} {vs : Array Value} {file : Str} {tf : Tok}
    (xL : K.lookup C = some (PySem.excClassObj nm q C N bs bm true sn sub ab col dd k0 k1 k2 k3 k5 "ValueError.__new__")) (hbm : PySem.HandSPX.refsVE bm = true)
    (sup : PySem.W.ks_superIn K C C "__init__" = some (some (.builtin "ValueError.__init__")))
    (sa : PySem.W.findIn K (.ref C) "__setattr__" = some (some (.builtin "object.__setattr__"))) (ga : PySem.W.findIn K (.ref C) "__getattribute__" = some (some (.builtin "BaseException.__getattribute__"))) (gg : PySem.W.findIn K (.ref C) "__getattr__" = some none) (noN : PySem.W.findIn K (.ref C) "reason" = some none)
    (iC : PySem.W.findIn K (.ref C) "__init__" = some (some (.ref fI))) (tC : PySem.W.typeIn K (.ref fI) = some (.type "function")) (kC : PySem.W.keepIn K (.ref C) = true) (exC : PySem.W.subIn K (.ref C) (.type "BaseException") = some true) (veC : PySem.W.subIn K (.ref C) (.type "ValueError") = some true)
    (mC : PySem.W.mroIn K C (.ref C) = some true) (tyC : PySem.W.typeIn K (.ref C) = some (.type "type")) (hdC : PySem.W.hasDictIn K C = true) (any : PySem.W.nsIn K cStatics "thirdparty.any" = some none) (sg : PySem.W.nsIn K mainGlobals "super" = some none)
    (l1 : K.lookup fI = some ⟨oc, od, .func (PySem.W.ksFn "__init__" "Refused.__init__" (PySem.RefX.iA p1 p2) (PySem.RefX.iB a1 a2 a3 a4 a5 a6 q1 q2 q3 q4) PySem.RefX.rS .none .none doc pm an (.ref cda) ct cc), osl⟩) (c1 : PySem.W.codeIn K (.ref cda) "Refused.__init__" = true)
    (l2 : K.lookup cda = some ⟨ccl, cdd, .fields vs, ccs⟩) (hv : vs[2]? = some (.str file tf)) (l3 : K.lookup cc = some ⟨cl, cld, .cell (some (.ref C)), csl⟩)
    (hev : ∀ env : Env, ∃ pl, eval (.Call (.Attribute (.Call (.Name "super" a1) [] [] a2) "__init__" a3) [.Name "reason" a4] [] a5) env = (do
        let ov ← attributeBase (.Call (.Name "super" a1) [] [] a2) "__init__" env (eval (.Call (.Name "super" a1) [] [] a2) env)
        standAt a3.atName
        let (f, first) ← holding [ov] (getMethod ov "__init__" pl)
        callWith a5 f first (backTo a5 (starEach [.Name "reason" a4] env)) [])) : RefIn K C file := fun prog hf hs =>
  ⟨fI, ⟨⟨nm, q, N, bs, bm, sn, sub, ab, col, dd, k0, k1, k2, k3, k5, xL, hbm⟩, sup, sa, ga, gg, noN, iC, tC, kC, exC, veC, mC, by unfold PySem.W.clsIn; rw [xL]; rfl, tyC, hdC, any, sg, hs,
    ⟨oc, od, doc, pm, an, cda, cc, ct, osl, p1, p2, a1, a2, a3, a4, a5, a6, q1, q2, q3, q4, ccl, cl, cdd, cld, ccs, csl, vs, file, tf, l1, c1, l2, hv, hf, l3, hev⟩⟩⟩
/-- an exception class of the top -/
structure ExRn (K : PySem.W.Frag) (c : Str) (C : Addr) : Prop where
  a : PySem.W.nsIn K mainGlobals c = some (some (.ref C))
  k : PySem.W.keepIn K (.ref C) = true
  t : PySem.W.typeIn K (.ref C) = some (.type "type")
  e : ExcC K C
structure ExIn (K : PySem.W.Frag) (c : Str) (C : Addr) : Prop where
  a : PySem.W.nsIn K mainGlobals c = some (some (.ref C))
  x : PySem.W.excIn K C [.type "ValueError", .type "Exception", .type "BaseException", .type "object"] "ValueError.__new__" = true
  k : PySem.W.keepIn K (.ref C) = true
  t : PySem.W.typeIn K (.ref C) = some (.type "type")
  e : ExcC K C
theorem kit_ref {t : Value} {C : Addr} (hd : PySem.W.hasDictIn K C = true) (ht : PySem.W.typeIn K (.ref C) = some (.type "type")) (h4 : PySem.W.subIn K t (.ref C) = some true) : PySem.W.kitOne K t (.ref C) = some true := by
  unfold PySem.W.kitOne
  split
  · rfl
  · obtain ⟨cd, hc, _⟩ := PySem.W.any_some hd
    have e2 : ((PySem.W.clsIn K C).isSome && PySem.W.typeIn K (.ref C) == some (.type "type")) = true := by rw [hc, ht] <;> rfl
    show (if _ then _ else none) = _
    rw [if_pos e2]
    exact h4
theorem kit_ty' {t : Value} {T : String} (hm : PySem.W.kitMeta T = true) (h4 : PySem.W.subIn K t (.type T) = some true) : PySem.W.kitOne K t (.type T) = some true := by
  unfold PySem.W.kitOne
  split
  · rfl
  · show (if _ then _ else none) = _
    rw [if_pos hm]
    exact h4
theorem lookup_mem {α : Type} {x : Str} {l : List (Str × α)} {a : α} (h : l.lookup x = some a) : (x, a) ∈ l := by
  induction l with
  | nil => cases h
  | cons p l ih =>
    obtain ⟨y, b⟩ := p
    rw [List.lookup_cons] at h
    split at h
    · rename_i e
      have e := eq_of_beq e
      subst e
      cases h
      exact List.mem_cons_self ..
    · exact List.mem_cons_of_mem _ (ih h)
theorem lookup_mem2 {α : Type} {x : Str × Str} {l : List ((Str × Str) × α)} {a : α} (h : l.lookup x = some a) : (x, a) ∈ l := by
  induction l with
  | nil => cases h
  | cons p l ih =>
    obtain ⟨y, b⟩ := p
    rw [List.lookup_cons] at h
    split at h
    · rename_i e
      have e := eq_of_beq e
      subst e
      cases h
      exact List.mem_cons_self ..
    · exact List.mem_cons_of_mem _ (ih h)
end
mutual
/-- a written constant of the top -/
def ItIn (K : PySem.W.Frag) : D → Value → Prop
  | .int i, v => ∃ t, v = .int i t
  | .str i, v => ∃ t, v = .str i t
  | .bool b, v => v = .bool b
  | .none, v => v = .none
  | .tuple ds, v => ∃ (a : Addr) (od : Option Addr) (its : Array Value) (n : Nat) (sl : Array (Option Value)), v = .ref a ∧ K.lookup a = some ⟨.type "tuple", od, .seq its n, sl⟩ ∧ its.size ≤ sizeLine ∧ ItsIn K ds its.toList
  | .list _, _ => False
  | .dict _, _ => False
def ItsIn (K : PySem.W.Frag) : List D → List Value → Prop
  | [], us => us = []
  | d :: ds, us => ∃ u vs, us = u :: vs ∧ ItIn K d u ∧ ItsIn K ds vs
end
mutual
theorem ItIn.rp {U : Wd} : ∀ (d : D) (u : Value), ItIn U.K d u → ∃ v, RelV v u ∧ ∀ ow H, Rp U ow H d v
  | .int i, u, h => by
    unfold ItIn at h
    obtain ⟨t, rfl⟩ := h
    exact ⟨.int i, ⟨t, rfl⟩, fun _ _ => Rp.int⟩
  | .str i, u, h => by
    unfold ItIn at h
    obtain ⟨t, rfl⟩ := h
    exact ⟨.str i, ⟨t, rfl⟩, fun _ _ => Rp.str⟩
  | .bool b, u, h => by
    unfold ItIn at h
    subst h
    exact ⟨.bl b, rfl, fun _ _ => Rp.bool⟩
  | .none, u, h => by
    unfold ItIn at h
    subst h
    exact ⟨.non, rfl, fun _ _ => Rp.none⟩
  | .tuple ds, u, h => by
    unfold ItIn at h
    obtain ⟨a, od, its, n, sl, rfl, l, hs, r⟩ := h
    obtain ⟨xs, r1, r2⟩ := ItsIn.rp ds its.toList r
    refine ⟨.ref a, rfl, fun ow H => ?_⟩
    unfold Rp
    exact ⟨a, xs, rfl, .inr ⟨_, its, n, l, rfl, rfl, hs, r1⟩, r2 ow H⟩
  | .list _, u, h => by
    unfold ItIn at h
    exact h.elim
  | .dict _, u, h => by
    unfold ItIn at h
    exact h.elim
theorem ItsIn.rp {U : Wd} : ∀ (ds : List D) (us : List Value), ItsIn U.K ds us → ∃ xs, Vals xs us ∧ ∀ ow H, RpL U ow H ds xs
  | [], us, h => by
    unfold ItsIn at h
    subst h
    exact ⟨[], .nil, fun _ _ => RpL.nil⟩
  | d :: ds, us, h => by
    unfold ItsIn at h
    obtain ⟨u, vs, rfl, h1, h2⟩ := h
    obtain ⟨v, r1, r2⟩ := ItIn.rp d u h1
    obtain ⟨xs, r3, r4⟩ := ItsIn.rp ds vs h2
    exact ⟨v :: xs, .cons r1 r3, fun ow H => RpL.cons (r2 ow H) (r4 ow H)⟩
end
/-- the entries of a written dict -/
def EsIn (K : PySem.W.Frag) (P : Params) : List (D × D) → List DictEntry → Prop
  | [], es => es = []
  | p :: r, es => ∃ (z : Str) (t : Tok) (e : DictEntry) (es' : List DictEntry), es = e :: es' ∧ p.1 = .str z ∧ e.key = .str z t ∧ e.hash = PyData.keyHash P z ∧ ItIn K p.2 e.val ∧ EsIn K P r es'
/-- a written dict of the top -/
def DcIn (K : PySem.W.Frag) (P : Params) (kvs : List (D × D)) (v : Value) : Prop := ∃ (a : Addr) (es : Array DictEntry) (n : Nat), v = .ref a ∧ K.lookup a = some ⟨.type "dict", none, .dict es n, #[]⟩ ∧ (a == sysModules) = false ∧ EsIn K P kvs es.toList
theorem EsIn.rp {U : Wd} : ∀ (kvs : List (D × D)) (es : List DictEntry), EsIn U.K U.w.params kvs es → PySem.W.KeysLit U.w.params es ∧ (es.any (·.refKey)) = false ∧ ∃ xs : List (Key × V), (∀ ow H, RpD U ow H kvs xs) ∧ (∀ p ∈ xs, ∃ z : Str, p.1 = .inr z) ∧
    ∀ z : Str, RelO (valV xs (.inr z)) ((es.find? (·.key.isStr z)).map (·.val))
  | [], es, h => by
    unfold EsIn at h
    subst h
    refine ⟨trivial, rfl, [], fun _ _ => ?_, fun p hp => ?_, fun z => trivial⟩
    · unfold RpD
      rfl
    · exact absurd hp List.not_mem_nil
  | p :: r, es, h => by
    unfold EsIn at h
    obtain ⟨z, t, e, es', rfl, h1, h2, h3, h4, h5⟩ := h
    obtain ⟨k1, k2, xs, k3, k4, k5⟩ := EsIn.rp r es' h5
    obtain ⟨x, r1, r2⟩ := ItIn.rp (U := U) p.2 e.val h4
    refine ⟨⟨⟨z, t, h2, h3⟩, k1⟩, ?_, (.inr z, x) :: xs, fun ow H => ?_, fun q hq => ?_, fun y => ?_⟩
    · rw [List.any_cons, k2, Bool.or_false]
      show DictEntry.refKey e = false
      unfold DictEntry.refKey
      rw [h2]
    · unfold RpD
      exact ⟨.inr z, x, xs, rfl, by rw [h1]; rfl, r2 ow H, k3 ow H⟩
    · rcases List.mem_cons.mp hq with rfl | hq
      · exact ⟨z, rfl⟩
      · exact k4 q hq
    · by_cases hz : z = y
      · subst hz
        have e1 : (e.key.isStr z) = true := by
          rw [h2]
          show (z == z) = true
          simp
        rw [List.find?_cons_of_pos (p := fun d : DictEntry => d.key.isStr z) e1]
        unfold valV
        rw [List.find?_cons_of_pos (by simp)]
        exact r1
      · have e1 : ¬ (e.key.isStr y) = true := by
          rw [h2]
          show ¬ (z == y) = true
          intro c
          exact hz (eq_of_beq c)
        rw [List.find?_cons_of_neg (p := fun d : DictEntry => d.key.isStr y) e1]
        unfold valV
        rw [List.find?_cons_of_neg (by
          simp only [decide_eq_true_eq]
          intro c
          exact hz (Sum.inr.inj c))]
        exact k5 y
theorem DcIn.rp {U : Wd} {kvs : List (D × D)} {u : Value} (h : DcIn U.K U.w.params kvs u) : ∃ v, RelV v u ∧ ∀ ow H, Rp U ow H (.dict kvs) v := by
  obtain ⟨a, es, n, rfl, l, hs, r⟩ := h
  obtain ⟨k1, k2, xs, k3, k4, k5⟩ := EsIn.rp kvs es.toList r
  refine ⟨.ref a, rfl, fun ow H => ?_⟩
  unfold Rp
  refine .inr ⟨a, xs, rfl, .inr ⟨⟨es, n, ⟨l, k1, hs⟩⟩, fun z => ?_, k4⟩, k3 ow H⟩
  refine ⟨(es.toList.find? (·.key.isStr z)).map (·.val), ?_, k5 z⟩
  unfold PySem.W.nsIn
  rw [l]
  dsimp only
  cases es.toList.find? (·.key.isStr z) with
  | some e => rfl
  | none => rw [k2]; rfl
theorem esN {K : PySem.W.Frag} {P : Params} : EsIn K P [] [] := by unfold EsIn; rfl
theorem esC {K : PySem.W.Frag} {P : Params} {z : Str} {t : Tok} {d : D} {u : Value} {r : List (D × D)} {es : List DictEntry} {h : Int} (hh : h = PyData.keyHash P z) (i : ItIn K d u) (q : EsIn K P r es) : EsIn K P ((.str z, d) :: r) (⟨h, .str z t, u⟩ :: es) := by
  unfold EsIn
  exact ⟨z, t, ⟨h, .str z t, u⟩, es, rfl, rfl, rfl, hh, i, q⟩
theorem dc_mk {K : PySem.W.Frag} {P : Params} {x : Str} {kvs : List (D × D)} {a : Addr} {es : List DictEntry} {n : Nat} (b : PySem.W.nsIn K mainGlobals x = some (some (.ref a))) (l : K.lookup a = some ⟨.type "dict", none, .dict es.toArray n, #[]⟩) (hs : (a == sysModules) = false) (q : EsIn K P kvs es) : ∃ u, PySem.W.nsIn K mainGlobals x = some (some u) ∧ DcIn K P kvs u :=
  ⟨.ref a, b, a, es.toArray, n, rfl, l, hs, by simpa using q⟩
theorem itI {K : PySem.W.Frag} {i : Int} {t : Tok} : ItIn K (.int i) (.int i t) := by unfold ItIn; exact ⟨t, rfl⟩
theorem itS {K : PySem.W.Frag} {i : Str} {t : Tok} : ItIn K (.str i) (.str i t) := by unfold ItIn; exact ⟨t, rfl⟩
theorem itT {K : PySem.W.Frag} {ds : List D} {a : Addr} {od : Option Addr} {its : List Value} {n : Nat} {sl : Array (Option Value)} (l : K.lookup a = some ⟨.type "tuple", od, .seq its.toArray n, sl⟩) (r : ItsIn K ds its) (hs : its.length ≤ 1000) : ItIn K (.tuple ds) (.ref a) := by
  unfold ItIn
  exact ⟨a, od, its.toArray, n, sl, rfl, l, by simpa using Nat.le_trans hs (by decide), r⟩
theorem itN {K : PySem.W.Frag} : ItsIn K [] [] := by unfold ItsIn; rfl
theorem itC {K : PySem.W.Frag} {d : D} {ds : List D} {u : Value} {us : List Value} (h : ItIn K d u) (r : ItsIn K ds us) : ItsIn K (d :: ds) (u :: us) := by unfold ItsIn; exact ⟨u, us, rfl, h, r⟩
theorem cst_mk {K : PySem.W.Frag} {x : Str} {d : D} {u : Value} (a : PySem.W.nsIn K mainGlobals x = some (some u)) (i : ItIn K d u) : ∃ u, PySem.W.nsIn K mainGlobals x = some (some u) ∧ ItIn K d u := ⟨u, a, i⟩
end Py

set_option Elab.async false
set_option linter.all false
set_option maxRecDepth 100000
namespace Py
open PySem
open PySem.Spec L2
set_option maxHeartbeats 4000000
def top (i : Nat) : Stmt := PySem.Challenge.pw_drawnhigher_k08_arrows_and_chains.main.body.getD i (.Pass ⟨0, 0, 0, 0⟩)
def F_check_word : Fd := ⟨["word"], ["word"], defScope (top 5), defBody (top 5), ⟨false, false⟩⟩
def F_check_kind : Fd := ⟨["kind"], ["kind"], defScope (top 10), defBody (top 10), ⟨false, false⟩⟩
def F_arrows_of : Fd := ⟨["kind"], ["kind"], defScope (top 11), defBody (top 11), ⟨false, false⟩⟩
def F_arrows : Fd := ⟨["kind"], ["kind"], defScope (top 12), defBody (top 12), ⟨false, false⟩⟩
def F_chain_between : Fd := ⟨["kind", "x", "y"], ["kind", "x", "y", "before", "waiting", "found", "word", "one", "two"], defScope (top 13), defBody (top 13), ⟨false, false⟩⟩
def F_check_pair : Fd := ⟨["kind", "x", "y"], ["kind", "x", "y"], defScope (top 14), defBody (top 14), ⟨false, false⟩⟩
def F_does_force : Fd := ⟨["kind", "x", "y"], ["kind", "x", "y"], defScope (top 15), defBody (top 15), ⟨false, false⟩⟩
def F_all_forced : Fd := ⟨["kind", "x"], ["kind", "x", "y"], defScope (top 16), defBody (top 16), ⟨false, false⟩⟩
def F__law_says : Fd := ⟨["value", "due"], ["value", "due"], defScope (top 20), defBody (top 20), ⟨false, false⟩⟩
def F__law_words : Fd := ⟨[], [], defScope (top 21), defBody (top 21), ⟨false, false⟩⟩
def F__law_arrows : Fd := ⟨["kind"], ["kind", "text", "more", "words", "k"], defScope (top 22), defBody (top 22), ⟨false, false⟩⟩
def F__law_reached : Fd := ⟨["kind", "x"], ["kind", "x", "found", "at", "one", "two"], defScope (top 23), defBody (top 23), ⟨false, false⟩⟩
def F__law_told : Fd := ⟨["which", "kind", "x", "y"], ["which", "kind", "x", "y"], defScope (top 24), defBody (top 24), ⟨false, false⟩⟩
def fdT : List (Str × Fd) := [(("check_word" : Str), F_check_word), (("check_kind" : Str), F_check_kind), (("arrows_of" : Str), F_arrows_of), (("arrows" : Str), F_arrows), (("chain_between" : Str), F_chain_between), (("check_pair" : Str), F_check_pair), (("does_force" : Str), F_does_force), (("all_forced" : Str), F_all_forced), (("_law_says" : Str), F__law_says), (("_law_words" : Str), F__law_words), (("_law_arrows" : Str), F__law_arrows), (("_law_reached" : Str), F__law_reached), (("_law_told" : Str), F__law_told)]
def cstT : List (Str × D) := [(("WORDS" : Str), .tuple [.str "lr", .str "hr", .str "rh", .str "st", .str "mrl", .str "hmrl", .str "icx", .str "icv", .str "lt", .str "mean", .str "pr", .str "median", .str "least", .str "most"]), (("ALWAYS" : Str), .tuple [.tuple [.str "lr", .str "hr"], .tuple [.str "lr", .str "rh"], .tuple [.str "hr", .str "st"], .tuple [.str "hr", .str "mrl"], .tuple [.str "rh", .str "st"], .tuple [.str "st", .str "icx"], .tuple [.str "st", .str "icv"], .tuple [.str "st", .str "pr"], .tuple [.str "st", .str "median"], .tuple [.str "mrl", .str "hmrl"], .tuple [.str "hmrl", .str "icx"], .tuple [.str "icx", .str "mean"], .tuple [.str "icx", .str "most"], .tuple [.str "icv", .str "lt"], .tuple [.str "lt", .str "mean"], .tuple [.str "lt", .str "least"]]), (("SAME_MEAN" : Str), .tuple [.tuple [.str "st", .str "lr"], .tuple [.str "icx", .str "hmrl"], .tuple [.str "lr", .str "mean"], .tuple [.str "hr", .str "mean"], .tuple [.str "rh", .str "mean"], .tuple [.str "st", .str "mean"], .tuple [.str "mrl", .str "mean"], .tuple [.str "hmrl", .str "mean"], .tuple [.str "icv", .str "mean"], .tuple [.str "pr", .str "mean"], .tuple [.str "median", .str "mean"], .tuple [.str "least", .str "mean"], .tuple [.str "most", .str "mean"]]), (("SHOWN" : Str), .dict [(.str "all", .tuple [.tuple [.tuple [.int 0, .int 1], .tuple [.int 1, .int 0, .int 1]], .tuple [.tuple [.int 1, .int 0, .int 1], .tuple [.int 0, .int 1]], .tuple [.tuple [.int 8, .int 8], .tuple [.int 9, .int 7]], .tuple [.tuple [.int 0, .int 2, .int 0, .int 1], .tuple [.int 0, .int 1, .int 1, .int 1]], .tuple [.tuple [.int 3, .int 10, .int 0, .int 14], .tuple [.int 2, .int 11, .int 1, .int 13]], .tuple [.tuple [.int 15, .int 12, .int 3], .tuple [.int 16, .int 10, .int 4]], .tuple [.tuple [.int 1, .int 2, .int 3, .int 2, .int 0, .int 1], .tuple [.int 0, .int 0, .int 2, .int 0, .int 0, .int 5]], .tuple [.tuple [.int 0, .int 13, .int 0, .int 2], .tuple [.int 1, .int 11, .int 1, .int 2]], .tuple [.tuple [.int 1, .int 0, .int 0, .int 0, .int 1], .tuple [.int 0, .int 1]], .tuple [.tuple [.int 15, .int 18, .int 10, .int 2, .int 16], .tuple [.int 15, .int 17, .int 12, .int 2, .int 14, .int 1]]]), (.str "same", .tuple [.tuple [.tuple [.int 0, .int 1], .tuple [.int 1, .int 0, .int 1]], .tuple [.tuple [.int 1, .int 0, .int 1], .tuple [.int 0, .int 1]], .tuple [.tuple [.int 15, .int 12, .int 3], .tuple [.int 16, .int 10, .int 4]], .tuple [.tuple [.int 3, .int 10, .int 0, .int 14], .tuple [.int 2, .int 11, .int 1, .int 13]], .tuple [.tuple [.int 0, .int 13, .int 0, .int 2], .tuple [.int 1, .int 11, .int 1, .int 2]], .tuple [.tuple [.int 15, .int 18, .int 10, .int 2, .int 16], .tuple [.int 15, .int 17, .int 12, .int 2, .int 14, .int 1]]])])]
def bareT : List Str := ["abs", "bool", "int", "isinstance", "len", "range", "sorted", "str", "tuple"]
def excT : List Str := ["Malformed"]
def iniT : List Str := []
def subT : List ((Str × Str) × Bool) := [(("Malformed", "Fault"), true), (("Malformed", "ValueError"), true)]
def P : Pg := ⟨fun x => fdT.lookup x, fun x => if x = ("_law_take" : Str) then some takeP else none, fun x => cstT.lookup x, fun x => decide (x ∈ bareT), fun x => decide (x ∈ excT), fun x => decide (x ∈ iniT), fun x y => subT.lookup (x, y)⟩
theorem l_check_word (call : Str → List D → M D) (w : Nat) : runFd (P.gl call) w F_check_word = S_check_word call w := by kernel_rfl
theorem u_check_word (w k : Nat) : P.call w (k + 1) "check_word" = S_check_word (P.call w k) w := (funext fun ds => rfl : P.call w (k + 1) "check_word" = fun ds => runFd (P.gl (P.call w k)) w F_check_word ds).trans (l_check_word (P.call w k) w)
theorem l_check_kind (call : Str → List D → M D) (w : Nat) : runFd (P.gl call) w F_check_kind = S_check_kind call w := by kernel_rfl
theorem u_check_kind (w k : Nat) : P.call w (k + 1) "check_kind" = S_check_kind (P.call w k) w := (funext fun ds => rfl : P.call w (k + 1) "check_kind" = fun ds => runFd (P.gl (P.call w k)) w F_check_kind ds).trans (l_check_kind (P.call w k) w)
theorem l_arrows_of (call : Str → List D → M D) (w : Nat) : runFd (P.gl call) w F_arrows_of = S_arrows_of call w := by kernel_rfl
theorem u_arrows_of (w k : Nat) : P.call w (k + 1) "arrows_of" = S_arrows_of (P.call w k) w := (funext fun ds => rfl : P.call w (k + 1) "arrows_of" = fun ds => runFd (P.gl (P.call w k)) w F_arrows_of ds).trans (l_arrows_of (P.call w k) w)
theorem l_arrows (call : Str → List D → M D) (w : Nat) : runFd (P.gl call) w F_arrows = S_arrows call w := by kernel_rfl
theorem u_arrows (w k : Nat) : P.call w (k + 1) "arrows" = S_arrows (P.call w k) w := (funext fun ds => rfl : P.call w (k + 1) "arrows" = fun ds => runFd (P.gl (P.call w k)) w F_arrows ds).trans (l_arrows (P.call w k) w)
theorem l_chain_between (call : Str → List D → M D) (w : Nat) : runFd (P.gl call) w F_chain_between = S_chain_between call w := by kernel_rfl
theorem u_chain_between (w k : Nat) : P.call w (k + 1) "chain_between" = S_chain_between (P.call w k) w := (funext fun ds => rfl : P.call w (k + 1) "chain_between" = fun ds => runFd (P.gl (P.call w k)) w F_chain_between ds).trans (l_chain_between (P.call w k) w)
theorem l_check_pair (call : Str → List D → M D) (w : Nat) : runFd (P.gl call) w F_check_pair = S_check_pair call w := by kernel_rfl
theorem u_check_pair (w k : Nat) : P.call w (k + 1) "check_pair" = S_check_pair (P.call w k) w := (funext fun ds => rfl : P.call w (k + 1) "check_pair" = fun ds => runFd (P.gl (P.call w k)) w F_check_pair ds).trans (l_check_pair (P.call w k) w)
theorem l_does_force (call : Str → List D → M D) (w : Nat) : runFd (P.gl call) w F_does_force = S_does_force call w := by kernel_rfl
theorem u_does_force (w k : Nat) : P.call w (k + 1) "does_force" = S_does_force (P.call w k) w := (funext fun ds => rfl : P.call w (k + 1) "does_force" = fun ds => runFd (P.gl (P.call w k)) w F_does_force ds).trans (l_does_force (P.call w k) w)
theorem l_all_forced (call : Str → List D → M D) (w : Nat) : runFd (P.gl call) w F_all_forced = S_all_forced call w := by kernel_rfl
theorem u_all_forced (w k : Nat) : P.call w (k + 1) "all_forced" = S_all_forced (P.call w k) w := (funext fun ds => rfl : P.call w (k + 1) "all_forced" = fun ds => runFd (P.gl (P.call w k)) w F_all_forced ds).trans (l_all_forced (P.call w k) w)
theorem l__law_says (call : Str → List D → M D) (w : Nat) : runFd (P.gl call) w F__law_says = S__law_says call w := by kernel_rfl
theorem u__law_says (w k : Nat) : P.call w (k + 1) "_law_says" = S__law_says (P.call w k) w := (funext fun ds => rfl : P.call w (k + 1) "_law_says" = fun ds => runFd (P.gl (P.call w k)) w F__law_says ds).trans (l__law_says (P.call w k) w)
theorem l__law_words (call : Str → List D → M D) (w : Nat) : runFd (P.gl call) w F__law_words = S__law_words call w := by kernel_rfl
theorem u__law_words (w k : Nat) : P.call w (k + 1) "_law_words" = S__law_words (P.call w k) w := (funext fun ds => rfl : P.call w (k + 1) "_law_words" = fun ds => runFd (P.gl (P.call w k)) w F__law_words ds).trans (l__law_words (P.call w k) w)
theorem l__law_arrows (call : Str → List D → M D) (w : Nat) : runFd (P.gl call) w F__law_arrows = S__law_arrows call w := by kernel_rfl
theorem u__law_arrows (w k : Nat) : P.call w (k + 1) "_law_arrows" = S__law_arrows (P.call w k) w := (funext fun ds => rfl : P.call w (k + 1) "_law_arrows" = fun ds => runFd (P.gl (P.call w k)) w F__law_arrows ds).trans (l__law_arrows (P.call w k) w)
theorem l__law_reached (call : Str → List D → M D) (w : Nat) : runFd (P.gl call) w F__law_reached = S__law_reached call w := by kernel_rfl
theorem u__law_reached (w k : Nat) : P.call w (k + 1) "_law_reached" = S__law_reached (P.call w k) w := (funext fun ds => rfl : P.call w (k + 1) "_law_reached" = fun ds => runFd (P.gl (P.call w k)) w F__law_reached ds).trans (l__law_reached (P.call w k) w)
theorem l__law_told (call : Str → List D → M D) (w : Nat) : runFd (P.gl call) w F__law_told = S__law_told call w := by kernel_rfl
theorem u__law_told (w k : Nat) : P.call w (k + 1) "_law_told" = S__law_told (P.call w k) w := (funext fun ds => rfl : P.call w (k + 1) "_law_told" = fun ds => runFd (P.gl (P.call w k)) w F__law_told ds).trans (l__law_told (P.call w k) w)
theorem l_law (call : Str → List D → M D) (w : Nat) (σ : St) : exec (P.gl call) (evE (P.gl call) 40) w ⟨nLaw, defScope (top 25), defScope (top 25)⟩ 60 σ ((defBody (top 25)).drop 1) = S_law call w σ := by kernel_rfl
theorem u__law_take (w k : Nat) : P.call w (k + 1) "_law_take" = takeP := rfl
theorem c__law_says {w k : Nat} (hw : 200 ≤ w) (hk : 1 ≤ k) : Sp__law_says (P.call w k "_law_says") := by
  obtain ⟨k, rfl⟩ : ∃ j, k = j + 1 := ⟨k - 1, by omega⟩
  rw [u__law_says]
  exact s__law_says 
theorem c_check_kind {w k : Nat} (hw : 200 ≤ w) (hk : 1 ≤ k) : Sp_check_kind (P.call w k "check_kind") := by
  obtain ⟨k, rfl⟩ : ∃ j, k = j + 1 := ⟨k - 1, by omega⟩
  rw [u_check_kind]
  exact s_check_kind 
theorem c_arrows_of {w k : Nat} (hw : 200 ≤ w) (hk : 1 ≤ k) : Sp_arrows_of (P.call w k "arrows_of") := by
  obtain ⟨k, rfl⟩ : ∃ j, k = j + 1 := ⟨k - 1, by omega⟩
  rw [u_arrows_of]
  exact s_arrows_of 
theorem c_arrows {w k : Nat} (hw : 200 ≤ w) (hk : 2 ≤ k) : Sp_arrows (P.call w k "arrows") := by
  obtain ⟨k, rfl⟩ : ∃ j, k = j + 1 := ⟨k - 1, by omega⟩
  rw [u_arrows]
  exact s_arrows (c_check_kind hw (by omega)) (c_arrows_of hw (by omega))
theorem c_check_word {w k : Nat} (hw : 200 ≤ w) (hk : 1 ≤ k) : Sp_check_word (P.call w k "check_word") := by
  obtain ⟨k, rfl⟩ : ∃ j, k = j + 1 := ⟨k - 1, by omega⟩
  rw [u_check_word]
  exact s_check_word 
theorem c_check_pair {w k : Nat} (hw : 200 ≤ w) (hk : 2 ≤ k) : Sp_check_pair (P.call w k "check_pair") := by
  obtain ⟨k, rfl⟩ : ∃ j, k = j + 1 := ⟨k - 1, by omega⟩
  rw [u_check_pair]
  exact s_check_pair (c_check_kind hw (by omega)) (c_check_word hw (by omega))
theorem c_chain_between {w k : Nat} (hw : 200 ≤ w) (hk : 2 ≤ k) : Sp_chain_between (P.call w k "chain_between") := by
  obtain ⟨k, rfl⟩ : ∃ j, k = j + 1 := ⟨k - 1, by omega⟩
  rw [u_chain_between]
  exact s_chain_between (by omega) (c_arrows_of hw (by omega))
theorem c_does_force {w k : Nat} (hw : 200 ≤ w) (hk : 3 ≤ k) : Sp_does_force (P.call w k "does_force") := by
  obtain ⟨k, rfl⟩ : ∃ j, k = j + 1 := ⟨k - 1, by omega⟩
  rw [u_does_force]
  exact s_does_force (c_check_pair hw (by omega)) (c_chain_between hw (by omega))
theorem c_all_forced {w k : Nat} (hw : 200 ≤ w) (hk : 3 ≤ k) : Sp_all_forced (P.call w k "all_forced") := by
  obtain ⟨k, rfl⟩ : ∃ j, k = j + 1 := ⟨k - 1, by omega⟩
  rw [u_all_forced]
  exact s_all_forced (c_check_pair hw (by omega)) (c_chain_between hw (by omega))
theorem c__law_told08 {w k : Nat} (hw : 200 ≤ w) (hk : 4 ≤ k) : Sp__law_told08 (P.call w k "_law_told") := by
  obtain ⟨k, rfl⟩ : ∃ j, k = j + 1 := ⟨k - 1, by omega⟩
  rw [u__law_told]
  exact s__law_told08 (c_arrows hw (by omega)) (c_does_force hw (by omega)) (c_all_forced hw (by omega))
theorem c__law_words {w k : Nat} (hw : 200 ≤ w) (hk : 1 ≤ k) : Sp__law_words (P.call w k "_law_words") := by
  obtain ⟨k, rfl⟩ : ∃ j, k = j + 1 := ⟨k - 1, by omega⟩
  rw [u__law_words]
  exact s__law_words 
theorem c__law_arrows {w k : Nat} (hw : 200 ≤ w) (hk : 1 ≤ k) : Sp__law_arrows (P.call w k "_law_arrows") := by
  obtain ⟨k, rfl⟩ : ∃ j, k = j + 1 := ⟨k - 1, by omega⟩
  rw [u__law_arrows]
  exact s__law_arrows 
theorem c__law_reached {w k : Nat} (hw : 200 ≤ w) (hk : 2 ≤ k) : Sp__law_reached (P.call w k "_law_reached") := by
  obtain ⟨k, rfl⟩ : ∃ j, k = j + 1 := ⟨k - 1, by omega⟩
  rw [u__law_reached]
  exact s__law_reached (by omega) (c__law_arrows hw (by omega))
theorem law_runs (w : Nat) (hw : 200 ≤ w) {s : DS} (hs : OkS s) : (S_law (P.call w 4) w (startL nLaw.length) s).sat fun fl _ => ∃ o, fl = .ret (.bool true) o := run_law (u__law_take w 3) (c__law_says hw (by omega)) (c__law_told08 hw (by omega)) (c__law_words hw (by omega)) (c__law_reached hw (by omega)) (c__law_arrows hw (by omega)) hs
-- level 4
end Py

set_option Elab.async false
set_option linter.all false
set_option maxRecDepth 100000
set_option maxHeartbeats 1000000
namespace Py
open PySem PySem.Spec PyProof.Rows L2
abbrev sTake : Stmt := top 19
theorem scTake : FnScope ["draw", "many", "found"] ["draw", "many"] (defScope sTake) := ⟨rfl, rfl, rfl, by decide +kernel, rfl, by decide +kernel, by decide +kernel⟩
section
variable {U : Wd}
theorem ok_take {f : Addr} {fd : FuncData} (F : L2.Fun U.K "_law_take" "_law_take" sTake f fd) (ml : U.mg "len" = none) (mi : U.mg "int" = none) :
    FnOk U.P U.w U.K U.mg U.base (L2.CX U.P U.w) 1 f fd ["draw", "many"] (spF U (fun _ => takeP) ⟨false, true⟩ "_law_take" 2) := by
  refine F.okX scTake (fun vs H Q E h => h.1) (fun cdv A outer s0 H vs Q E hr h => ?_)
  obtain ⟨_, ow, s, ds, hk, hcl, r, w⟩ := h
  obtain ⟨n, rfl, hn, w⟩ : ∃ n, ds = [.dict [(.none, .none)], .int n] ∧ (0 < n ∧ n.natAbs.log2 < 9000 ∧ -1 ≤ s.at_ ∧ 0 ≤ s.seed ∧ s.seed < 2147483647) ∧ Wp (take n) s (PostE U ow (fun d => false && isL d) H Q) (PostXE U E H) := by
    have w' : Wp (takeP ds) s (PostE U ow (fun d => false && isL d) H Q) (PostXE U E H) := w
    clear w
    unfold takeP at w'
    split at w'
    · rename_i n
      refine ⟨n, rfl, ?_, w'⟩
      unfold Wp take at w'
      by_cases hc : 0 < n ∧ n.natAbs.log2 < 9000 ∧ -1 ≤ s.at_ ∧ 0 ≤ s.seed ∧ s.seed < 2147483647
      · exact hc
      · rw [if_neg hc] at w'; exact w'.elim
    · exact w'.of_fail.elim
  obtain ⟨h1, h2, h3, h4, h5⟩ := hn
  have ⟨rowH, cellH, hne⟩ := hk.cap
  obtain ⟨u, r1, rfl, rv1, r⟩ : ∃ u r1, vs = u :: r1 ∧ Rp U ow H (.dict [(.none, .none)]) u ∧ RpL U ow H [.int n] r1 := by unfold RpL at r; exact r
  obtain ⟨u2, r2, rfl, rv2, r⟩ : ∃ u r3, r1 = u :: r3 ∧ Rp U ow H (.int n) u ∧ RpL U ow H [] r3 := by unfold RpL at r; exact r
  unfold RpL at r
  subst r
  unfold Rp at rv1 rv2
  have rv1 : u = .ref U.cap := by
    rcases rv1 with ⟨_, e⟩ | ⟨a, xs, e, _, rd⟩
    · exact e
    · unfold RpD at rd
      obtain ⟨_, _, _, _, hk, _⟩ := rd
      cases hk
  subst rv1
  subst rv2
  refine ⟨_, pss_cons (ps_if (pt_cmpR op_eq (pe_ix ix_list (pv 0) pe_int fun _ _ => rfl) pe_int (nomark _))
      (pss_cons (ps_asg (pe_op op_add (pe_ix ix_list (pv 0) pe_int fun _ _ => rfl) pe_int) (pg_sub (pv 0) pe_int set_list))
      (pss_cons (ps_if (pt_cmpR op_lt (pe_ix ix_list (pv 0) pe_int fun _ _ => rfl) (pe_callB call_len_seq rfl ml PySem.boot_len (pa_cons (pe_ix ix_list (pv 0) pe_int fun _ _ => rfl) pa_nil)) (nomark _))
        (pss_one (ps_asg (pe_ix ix_list (pe_ix ix_list (pv 0) pe_int fun _ _ => rfl) (pe_ix ix_list (pv 0) pe_int fun _ _ => rfl) fun _ _ => rfl) (pg_sub (pv 0) pe_int set_list))) pss_nil)
      (pss_one (ps_if (pt_cmpR op_eq (pe_ix ix_list (pv 0) pe_int fun _ _ => rfl) pe_int (nomark _))
        (pss_cons (ps_asg (pe_op op_mod (pe_callTy call_int1 rfl mi (by decide +kernel) (pa_cons (pe_op op_add (pe_op op_mulW (pe_ix ix_list (pv 0) pe_int fun _ _ => rfl) pe_int) pe_int) pa_nil)) pe_int) (pg_sub (pv 0) pe_int set_list))
        (pss_one (ps_asg (pe_ix ix_list (pv 0) pe_int fun _ _ => rfl) (pg_sub (pv 0) pe_int set_list)))) pss_nil)))) pss_nil)
    (pss_cons (ps_set (i := 2) scTake.nd rfl (Or.inl rfl) (pe_op op_mod (pe_callTy call_int1 rfl mi (by decide +kernel) (pa_cons (pe_ix ix_list (pv 0) pe_int fun _ _ => rfl) pa_nil)) (pv 1)))
    (pss_cons (ps_asg (pe_op op_fdivW (pe_ix ix_list (pv 0) pe_int fun _ _ => rfl) (pv 1)) (pg_sub (pv 0) pe_int set_list))
    (pss_one (ps_ret (pv 2))))), ?_⟩
  have ix0 : ∀ (xs : List V) (v : V) (i : Int) (n : Nat), i = n → xs[n]? = some v → atI xs i = some v := fun xs v i n e h => by subst e; exact atI_nat h
  have w2 : PostE U ow (fun d => false && isL d) H Q (.int ((nextS s).cur % n)) { nextS s with cur := (nextS s).cur / n } := by
    have w' := w
    unfold Wp take at w'
    rw [if_pos ⟨h1, h2, h3, h4, h5⟩] at w'
    exact w'
  clear w
  have fin : ∀ (H' : Hp) (a c sd : Int), H' U.cap = some (.lst [.ref U.cell, .int a, .int c, .int sd]) → Ext U H H' → PostE U ow (fun d => false && isL d) H Q (.int (c % n)) ⟨s.cells, a, c / n, sd⟩ → Q (.int (c % n)) (upd H' U.cap (.lst [.ref U.cell, .int a, .int (c / n), .int sd])) := fun H' a c sd r e q =>
    q _ _ (fun b u hb z => by rw [upd_ne hb]; exact e b u hb z) ⟨upd_same, by rw [upd_ne hne]; exact e _ _ hne cellH, hne⟩ Rp.int fun z => by simp at z
  refine ⟨_, rfl, U.cap, _, _, _, rfl, rfl, SqL.of_eq rowH, ix0 _ _ _ 2 rfl rfl, rfl, _, rfl, ?_⟩
  refine ite2 (fun c => ?_) (fun c => ?_)
  · have hc : s.cur = 0 := by have z := of_decide_eq_true c; simpa using z
    have b1 : U.cell ≠ U.cap := hne
    refine ⟨_, rfl, U.cap, _, _, _, rfl, rfl, SqL.of_eq rowH, ix0 _ _ _ 1 rfl rfl, _, _, rfl, rfl, _, rfl, U.cap, _, _, 1, rfl, rfl, rowH, rfl, ?_⟩
    have r1 : upd H U.cap (.lst [.ref U.cell, .int (s.at_ + 1), .int s.cur, .int s.seed]) U.cap = _ := upd_same
    have e1 : Ext U H (upd H U.cap (.lst [.ref U.cell, .int (s.at_ + 1), .int s.cur, .int s.seed])) := fun b u hb z => by rw [upd_ne hb]; exact z
    refine ⟨_, rfl, U.cap, _, _, _, rfl, rfl, SqL.of_eq r1, ix0 _ _ _ 1 rfl rfl, _, rfl, U.cap, _, _, _, rfl, rfl, SqL.of_eq r1, ix0 _ _ _ 0 rfl rfl, U.cell, _, rfl, .inl (SqL.of_eq (e1 _ _ hne cellH)), _, _, rfl, rfl, _, rfl, ?_⟩
    have cm : CMulW s.seed 48271 := by
      unfold CMulW
      have a1 : s.seed.natAbs < 2 ^ 31 := by omega
      have a2 := PySem.Flt.log2_lt_of (by decide) a1
      have a3 : (48271 : Int).natAbs.log2 = 15 := by decide +kernel
      omega
    refine ite2 (fun c1 => ?_) (fun c1 => ?_)
    · have hl : s.at_ + 1 < (s.cells.length : Int) := by have z := of_decide_eq_true c1; simpa using z
      have hx : (s.at_ + 1).toNat < s.cells.length := by omega
      have hg : s.cells.getD (s.at_ + 1).toNat 0 = s.cells[(s.at_ + 1).toNat] := by rw [List.getD_eq_getElem?_getD, List.getElem?_eq_getElem hx]; rfl
      have ha : atI (s.cells.map V.int) (s.at_ + 1) = some (.int (s.cells.getD (s.at_ + 1).toNat 0)) := ix0 _ _ _ (s.at_ + 1).toNat (by omega) (by rw [List.getElem?_map, List.getElem?_eq_getElem hx, hg]; rfl)
      refine ⟨_, rfl, U.cap, _, _, _, rfl, rfl, SqL.of_eq r1, ix0 _ _ _ 0 rfl rfl, _, rfl, U.cap, _, _, _, rfl, rfl, SqL.of_eq r1, ix0 _ _ _ 1 rfl rfl, U.cell, _, _, _, rfl, rfl, SqL.of_eq (e1 _ _ hne cellH), ha, _, rfl, U.cap, _, _, 2, rfl, rfl, r1, rfl, ?_⟩
      have r2 : upd (upd H U.cap (.lst [.ref U.cell, .int (s.at_ + 1), .int s.cur, .int s.seed])) U.cap (.lst [.ref U.cell, .int (s.at_ + 1), .int (s.cells.getD (s.at_ + 1).toNat 0), .int s.seed]) U.cap = _ := upd_same
      have e2 : Ext U H (upd (upd H U.cap (.lst [.ref U.cell, .int (s.at_ + 1), .int s.cur, .int s.seed])) U.cap (.lst [.ref U.cell, .int (s.at_ + 1), .int (s.cells.getD (s.at_ + 1).toNat 0), .int s.seed])) := fun b u hb z => by rw [upd_ne hb]; exact e1 b u hb z
      refine ⟨_, rfl, U.cap, _, _, _, rfl, rfl, SqL.of_eq r2, ix0 _ _ _ 2 rfl rfl, rfl, _, rfl, ?_⟩
      refine ite2 (fun c2 => ?_) (fun c2 => ?_)
      · have hg0 : (s.cells.getD (s.at_ + 1).toNat 0) = 0 := by have z := of_decide_eq_true c2; exact V.int.inj z
        have e : nextS s = ⟨s.cells, s.at_ + 1, (s.seed * 48271 + 11) % 2147483647, (s.seed * 48271 + 11) % 2147483647⟩ := by
          unfold nextS
          rw [if_pos hc, if_neg (fun z => z.2 hg0)]
        rw [e] at w2
        have r3 : upd (upd (upd H U.cap (.lst [.ref U.cell, .int (s.at_ + 1), .int s.cur, .int s.seed])) U.cap (.lst [.ref U.cell, .int (s.at_ + 1), .int (s.cells.getD (s.at_ + 1).toNat 0), .int s.seed])) U.cap (.lst [.ref U.cell, .int (s.at_ + 1), .int (s.cells.getD (s.at_ + 1).toNat 0), .int ((s.seed * 48271 + 11) % 2147483647)]) U.cap = _ := upd_same
        have e3 : Ext U H (upd (upd (upd H U.cap (.lst [.ref U.cell, .int (s.at_ + 1), .int s.cur, .int s.seed])) U.cap (.lst [.ref U.cell, .int (s.at_ + 1), .int (s.cells.getD (s.at_ + 1).toNat 0), .int s.seed])) U.cap (.lst [.ref U.cell, .int (s.at_ + 1), .int (s.cells.getD (s.at_ + 1).toNat 0), .int ((s.seed * 48271 + 11) % 2147483647)])) := fun b u hb z => by rw [upd_ne hb]; exact e2 b u hb z
        refine ⟨_, rfl, U.cap, _, _, _, rfl, rfl, SqL.of_eq r2, ix0 _ _ _ 3 rfl rfl, _, _, rfl, rfl, cm, _, _, rfl, rfl, .inl ⟨_, rfl, _, _, rfl, rfl, by show (0 : Int) < 2147483647; decide, _, rfl, U.cap, _, _, 3, rfl, rfl, r2, rfl, ?_⟩⟩
        refine ⟨_, rfl, U.cap, _, _, _, rfl, rfl, SqL.of_eq r3, ix0 _ _ _ 3 rfl rfl, _, rfl, U.cap, _, _, 2, rfl, rfl, r3, rfl, ?_⟩
        have r4 : upd (upd (upd (upd H U.cap (.lst [.ref U.cell, .int (s.at_ + 1), .int s.cur, .int s.seed])) U.cap (.lst [.ref U.cell, .int (s.at_ + 1), .int (s.cells.getD (s.at_ + 1).toNat 0), .int s.seed])) U.cap (.lst [.ref U.cell, .int (s.at_ + 1), .int (s.cells.getD (s.at_ + 1).toNat 0), .int ((s.seed * 48271 + 11) % 2147483647)])) U.cap (.lst [.ref U.cell, .int (s.at_ + 1), .int ((s.seed * 48271 + 11) % 2147483647), .int ((s.seed * 48271 + 11) % 2147483647)]) U.cap = _ := upd_same
        have e4 : Ext U H (upd (upd (upd (upd H U.cap (.lst [.ref U.cell, .int (s.at_ + 1), .int s.cur, .int s.seed])) U.cap (.lst [.ref U.cell, .int (s.at_ + 1), .int (s.cells.getD (s.at_ + 1).toNat 0), .int s.seed])) U.cap (.lst [.ref U.cell, .int (s.at_ + 1), .int (s.cells.getD (s.at_ + 1).toNat 0), .int ((s.seed * 48271 + 11) % 2147483647)])) U.cap (.lst [.ref U.cell, .int (s.at_ + 1), .int ((s.seed * 48271 + 11) % 2147483647), .int ((s.seed * 48271 + 11) % 2147483647)])) := fun b u hb z => by rw [upd_ne hb]; exact e3 b u hb z
        refine ⟨_, rfl, U.cap, _, _, _, rfl, rfl, SqL.of_eq r4, ix0 _ _ _ 2 rfl rfl, .inl ⟨_, rfl, _, rfl, _, _, rfl, rfl, h1, ?_⟩⟩
        refine ⟨_, rfl, U.cap, _, _, _, rfl, rfl, SqL.of_eq r4, ix0 _ _ _ 2 rfl rfl, _, rfl, _, _, rfl, rfl, ⟨h1, h2⟩, _, rfl, U.cap, _, _, 2, rfl, rfl, r4, rfl, _, rfl, ?_⟩
        exact fin _ _ _ _ r4 e4 w2

      · have hg0 : ¬ (s.cells.getD (s.at_ + 1).toNat 0) = 0 := fun z => c2 (decide_eq_true (congrArg V.int z))
        have e : nextS s = ⟨s.cells, s.at_ + 1, (s.cells.getD (s.at_ + 1).toNat 0), s.seed⟩ := by
          unfold nextS
          rw [if_pos hc, if_pos ⟨hl, hg0⟩]
        rw [e] at w2
        refine ⟨_, rfl, U.cap, _, _, _, rfl, rfl, SqL.of_eq r2, ix0 _ _ _ 2 rfl rfl, .inl ⟨_, rfl, _, rfl, _, _, rfl, rfl, h1, ?_⟩⟩
        refine ⟨_, rfl, U.cap, _, _, _, rfl, rfl, SqL.of_eq r2, ix0 _ _ _ 2 rfl rfl, _, rfl, _, _, rfl, rfl, ⟨h1, h2⟩, _, rfl, U.cap, _, _, 2, rfl, rfl, r2, rfl, _, rfl, ?_⟩
        exact fin _ _ _ _ r2 e2 w2
    · have hl : ¬ s.at_ + 1 < (s.cells.length : Int) := fun z => c1 (by rw [List.length_map]; exact decide_eq_true z)
      have e : nextS s = ⟨s.cells, s.at_ + 1, (s.seed * 48271 + 11) % 2147483647, (s.seed * 48271 + 11) % 2147483647⟩ := by
        unfold nextS
        rw [if_pos hc, if_neg (fun z => hl z.1)]
      rw [e] at w2
      refine ⟨_, rfl, U.cap, _, _, _, rfl, rfl, SqL.of_eq r1, ix0 _ _ _ 2 rfl rfl, rfl, _, rfl, ?_⟩
      refine ite2 (fun c2 => ?_) (fun c2 => absurd (decide_eq_true (congrArg V.int hc)) c2)
      have r3 : upd (upd H U.cap (.lst [.ref U.cell, .int (s.at_ + 1), .int s.cur, .int s.seed])) U.cap (.lst [.ref U.cell, .int (s.at_ + 1), .int s.cur, .int ((s.seed * 48271 + 11) % 2147483647)]) U.cap = _ := upd_same
      have e3 : Ext U H (upd (upd H U.cap (.lst [.ref U.cell, .int (s.at_ + 1), .int s.cur, .int s.seed])) U.cap (.lst [.ref U.cell, .int (s.at_ + 1), .int s.cur, .int ((s.seed * 48271 + 11) % 2147483647)])) := fun b u hb z => by rw [upd_ne hb]; exact e1 b u hb z
      refine ⟨_, rfl, U.cap, _, _, _, rfl, rfl, SqL.of_eq r1, ix0 _ _ _ 3 rfl rfl, _, _, rfl, rfl, cm, _, _, rfl, rfl, .inl ⟨_, rfl, _, _, rfl, rfl, by show (0 : Int) < 2147483647; decide, _, rfl, U.cap, _, _, 3, rfl, rfl, r1, rfl, ?_⟩⟩
      refine ⟨_, rfl, U.cap, _, _, _, rfl, rfl, SqL.of_eq r3, ix0 _ _ _ 3 rfl rfl, _, rfl, U.cap, _, _, 2, rfl, rfl, r3, rfl, ?_⟩
      have r4 : upd (upd (upd H U.cap (.lst [.ref U.cell, .int (s.at_ + 1), .int s.cur, .int s.seed])) U.cap (.lst [.ref U.cell, .int (s.at_ + 1), .int s.cur, .int ((s.seed * 48271 + 11) % 2147483647)])) U.cap (.lst [.ref U.cell, .int (s.at_ + 1), .int ((s.seed * 48271 + 11) % 2147483647), .int ((s.seed * 48271 + 11) % 2147483647)]) U.cap = _ := upd_same
      have e4 : Ext U H (upd (upd (upd H U.cap (.lst [.ref U.cell, .int (s.at_ + 1), .int s.cur, .int s.seed])) U.cap (.lst [.ref U.cell, .int (s.at_ + 1), .int s.cur, .int ((s.seed * 48271 + 11) % 2147483647)])) U.cap (.lst [.ref U.cell, .int (s.at_ + 1), .int ((s.seed * 48271 + 11) % 2147483647), .int ((s.seed * 48271 + 11) % 2147483647)])) := fun b u hb z => by rw [upd_ne hb]; exact e3 b u hb z
      refine ⟨_, rfl, U.cap, _, _, _, rfl, rfl, SqL.of_eq r4, ix0 _ _ _ 2 rfl rfl, .inl ⟨_, rfl, _, rfl, _, _, rfl, rfl, h1, ?_⟩⟩
      refine ⟨_, rfl, U.cap, _, _, _, rfl, rfl, SqL.of_eq r4, ix0 _ _ _ 2 rfl rfl, _, rfl, _, _, rfl, rfl, ⟨h1, h2⟩, _, rfl, U.cap, _, _, 2, rfl, rfl, r4, rfl, _, rfl, ?_⟩
      exact fin _ _ _ _ r4 e4 w2

  · have hc : ¬ s.cur = 0 := fun z => c (by rw [z]; rfl)
    have e : nextS s = s := by unfold nextS; rw [if_neg hc]
    rw [e] at w2
    refine ⟨_, rfl, U.cap, _, _, _, rfl, rfl, SqL.of_eq rowH, ix0 _ _ _ 2 rfl rfl, .inl ⟨_, rfl, _, rfl, _, _, rfl, rfl, h1, ?_⟩⟩
    refine ⟨_, rfl, U.cap, _, _, _, rfl, rfl, SqL.of_eq rowH, ix0 _ _ _ 2 rfl rfl, _, rfl, _, _, rfl, rfl, ⟨h1, h2⟩, _, rfl, U.cap, _, _, 2, rfl, rfl, rowH, rfl, _, rfl, ?_⟩
    exact fin H s.at_ s.cur s.seed rowH Ext.refl w2
end
abbrev sDraw : Stmt := top 18
theorem scDraw : FnScope ["script", "seed", "cell"] ["script"] (defScope sDraw) := ⟨rfl, rfl, rfl, by decide +kernel, rfl, by decide +kernel, by decide +kernel⟩
section
variable {P : Program} {w : World} {K : PySem.W.Frag} {mg : Str → Option Value} {base : Heap}
theorem ok_draw {f : Addr} {fd : FuncData} (F : L2.Fun K "_law_draw" "_law_draw" sDraw f fd) (ma : mg "abs" = none) (mi : mg "int" = none) : FnOk P w K mg base (L2.CX P w) 1 f fd ["script"] (spDraw K) := by
  refine F.okX scDraw (fun vs H Q E h => by obtain ⟨a, ns, rfl, _⟩ := h; rfl) (fun cdv A outer s0 H vs Q E hr h => ?_)
  obtain ⟨a, ns, rfl, hS, h63, q⟩ := h
  refine ⟨_, pss_cons (ps_set (i := 1) scDraw.nd rfl (Or.inl rfl) pe_int)
    (pss_cons (ps_for (passes_of rfl) rfl (pi_list (pv 0)) (pg_name (i := 2) scDraw.nd rfl (Or.inl rfl)) (pss_one (ps_set (i := 1) scDraw.nd rfl (Or.inl rfl)
      (pe_op op_mod (pe_callTy call_int1 rfl mi (by decide +kernel) (pa_cons (pe_op op_add (pe_op op_add (pe_op op_mulW (pv 1) pe_int) (pe_op op_mod (pe_callB call_abs rfl ma boot_abs (pa_cons (pe_callTy call_int1 rfl mi (by decide +kernel) (pa_cons (pv 2) pa_nil)) pa_nil)) pe_int)) pe_int) pa_nil)) pe_int))))
    (pss_one (ps_ret (pe_lst (pa_cons (pe_lc rfl scDraw.nd (pi_list (pv 0)) (own := [("cell", 2)]) (blkOk_by (by rfl)) (fun _ _ _ _ _ => pg_name (i := 2) scDraw.nd rfl (Or.inl rfl)) (fun _ _ _ _ _ => pts_nil) (fun _ _ _ _ _ => pe_callB call_abs rfl ma boot_abs (pa_cons (pe_callTy call_int1 rfl mi (by decide +kernel) (pa_cons (pv 2) pa_nil)) pa_nil)))
      (pa_cons (pe_un un_neg pe_int) (pa_cons pe_int (pa_cons (pv 1) pa_nil)))))))), ?_⟩
  refine ⟨_, rfl, a, rfl, ⟨_, hS⟩, for_list (xs := ns.map V.int) (fun i σ H' => H' = H ∧ ∃ sd x, 0 ≤ sd ∧ sd < 2147483647 ∧ σ = [some (.ref a), some (.int sd), x]) ⟨rfl, 7, none, by decide, by decide, rfl⟩ (fun i σ H' _ ⟨e, _⟩ => by rw [e]; exact hS) (fun i x σ H' hx ⟨e, sd, y, g0, g1, es⟩ => ?_) fun σ H' ⟨e, sd, y, g0, g1, es⟩ => ?_⟩
  · obtain ⟨n, hn, rfl⟩ : ∃ n, ns[i]? = some n ∧ V.int n = x := by rw [List.getElem?_map, Option.map_eq_some_iff] at hx; exact hx
    subst es
    have cm : CMulW sd 48271 := by
      unfold CMulW
      have a1 : sd.natAbs < 2 ^ 31 := by omega
      have a2 := PySem.Flt.log2_lt_of (by decide) a1
      have a3 : (48271 : Int).natAbs.log2 = 15 := by decide +kernel
      omega
    refine ⟨_, rfl, _, _, rfl, rfl, cm, _, rfl, .inl ⟨_, rfl, _, rfl, _, _, rfl, rfl, by show (0 : Int) < 65521; decide, _, _, rfl, rfl, _, _, rfl, rfl, .inl ⟨_, rfl, _, _, rfl, rfl, by show (0 : Int) < 2147483647; decide, e, _, _, ?_, ?_, rfl⟩⟩⟩
    · exact Int.emod_nonneg _ (by decide)
    · exact Int.emod_lt_of_pos _ (by decide)
  · subst es
    subst e
    refine ⟨_, rfl, a, rfl, ⟨_, hS⟩, fun c hc => lc_list (xs := ns.map V.int) (fun i H2 => H2 = upd H' c (.lst (((ns.take i).map fun n => if n < 0 then -n else n).map V.int))) rfl (fun i H2 _ e => ?_) (fun i x H2 hx e => ?_) fun H2 e => ?_⟩
    · rw [e]
      exact (show Same H' (upd H' c _) from fun b u z => by rw [upd_ne (ne_of_none z hc)]; exact z).seq hS
    · obtain ⟨n, hn, rfl⟩ : ∃ n, ns[i]? = some n ∧ V.int n = x := by rw [List.getElem?_map, Option.map_eq_some_iff] at hx; exact hx
      refine ⟨rfl, iteT (B := H2 = upd H' c (.lst (((ns.take (i + 1)).map fun n => if n < 0 then -n else n).map V.int))) ⟨_, rfl, .inl ⟨_, rfl, _, rfl, _, by rw [e]; exact upd_same, ?_, ?_⟩⟩⟩
      · rw [List.length_map, List.length_map, List.length_take]
        exact Nat.lt_of_lt_of_le (by omega : _ < 100) (by decide)
      · rw [e]
        have ht : ns.take (i + 1) = ns.take i ++ [n] := by
          rw [List.take_add_one, hn]; rfl
        rw [ht, List.map_append, List.map_append]
        exact upd_upd
    · have e : H2 = upd H' c (.lst ((ns.map fun n => if n < 0 then -n else n).map V.int)) := by rw [List.length_map, List.take_length] at e; exact e
      subst e
      refine ⟨_, rfl, _, rfl, by show 4 ≤ sizeLine; decide, fun p hp => ?_⟩
      have hpc : p ≠ c := fun z => by rw [z, upd_same] at hp; cases hp
      exact q p c _ sd hpc (fun b u hb => by rw [upd_ne (ne_of_none (by rw [upd_ne (ne_of_none hb hc)]; exact hb) hp), upd_ne (ne_of_none hb hc)]; exact hb) g0 g1 upd_same (by rw [upd_ne (fun z => hpc z.symm)]; exact upd_same)
end

theorem sc_check_word : FnScope F_check_word.N F_check_word.ps (defScope (top 5)) := ⟨rfl, rfl, rfl, by decide +kernel, rfl, by decide +kernel, by decide +kernel⟩
theorem sc_check_kind : FnScope F_check_kind.N F_check_kind.ps (defScope (top 10)) := ⟨rfl, rfl, rfl, by decide +kernel, rfl, by decide +kernel, by decide +kernel⟩
theorem sc_arrows_of : FnScope F_arrows_of.N F_arrows_of.ps (defScope (top 11)) := ⟨rfl, rfl, rfl, by decide +kernel, rfl, by decide +kernel, by decide +kernel⟩
theorem sc_arrows : FnScope F_arrows.N F_arrows.ps (defScope (top 12)) := ⟨rfl, rfl, rfl, by decide +kernel, rfl, by decide +kernel, by decide +kernel⟩
theorem sc_chain_between : FnScope F_chain_between.N F_chain_between.ps (defScope (top 13)) := ⟨rfl, rfl, rfl, by decide +kernel, rfl, by decide +kernel, by decide +kernel⟩
theorem sc_check_pair : FnScope F_check_pair.N F_check_pair.ps (defScope (top 14)) := ⟨rfl, rfl, rfl, by decide +kernel, rfl, by decide +kernel, by decide +kernel⟩
theorem sc_does_force : FnScope F_does_force.N F_does_force.ps (defScope (top 15)) := ⟨rfl, rfl, rfl, by decide +kernel, rfl, by decide +kernel, by decide +kernel⟩
theorem sc_all_forced : FnScope F_all_forced.N F_all_forced.ps (defScope (top 16)) := ⟨rfl, rfl, rfl, by decide +kernel, rfl, by decide +kernel, by decide +kernel⟩
theorem sc__law_says : FnScope F__law_says.N F__law_says.ps (defScope (top 20)) := ⟨rfl, rfl, rfl, by decide +kernel, rfl, by decide +kernel, by decide +kernel⟩
theorem sc__law_words : FnScope F__law_words.N F__law_words.ps (defScope (top 21)) := ⟨rfl, rfl, rfl, by decide +kernel, rfl, by decide +kernel, by decide +kernel⟩
theorem sc__law_arrows : FnScope F__law_arrows.N F__law_arrows.ps (defScope (top 22)) := ⟨rfl, rfl, rfl, by decide +kernel, rfl, by decide +kernel, by decide +kernel⟩
theorem sc__law_reached : FnScope F__law_reached.N F__law_reached.ps (defScope (top 23)) := ⟨rfl, rfl, rfl, by decide +kernel, rfl, by decide +kernel, by decide +kernel⟩
theorem sc__law_told : FnScope F__law_told.N F__law_told.ps (defScope (top 24)) := ⟨rfl, rfl, rfl, by decide +kernel, rfl, by decide +kernel, by decide +kernel⟩
theorem sc_law : FnScope nLaw ["script"] (defScope (top 25)) := ⟨rfl, rfl, rfl, by decide +kernel, rfl, by decide +kernel, by decide +kernel⟩
/-- what the top leaves -/
structure AllIn (K : PySem.W.Frag) (P : Params) : Prop where
  d_check_word : DefIn K "check_word" (top 5)
  d_check_kind : DefIn K "check_kind" (top 10)
  d_arrows_of : DefIn K "arrows_of" (top 11)
  d_arrows : DefIn K "arrows" (top 12)
  d_chain_between : DefIn K "chain_between" (top 13)
  d_check_pair : DefIn K "check_pair" (top 14)
  d_does_force : DefIn K "does_force" (top 15)
  d_all_forced : DefIn K "all_forced" (top 16)
  d__law_says : DefIn K "_law_says" (top 20)
  d__law_words : DefIn K "_law_words" (top 21)
  d__law_arrows : DefIn K "_law_arrows" (top 22)
  d__law_reached : DefIn K "_law_reached" (top 23)
  d__law_told : DefIn K "_law_told" (top 24)
  d_take : DefIn K "_law_take" (top 19)
  d_draw : DefIn K "_law_draw" (top 18)
  d_law : DefIn K "law" (top 25)
  b_abs : PySem.W.nsIn K mainGlobals "abs" = some none
  b_bool : PySem.W.nsIn K mainGlobals "bool" = some none
  b_int : PySem.W.nsIn K mainGlobals "int" = some none
  b_isinstance : PySem.W.nsIn K mainGlobals "isinstance" = some none
  b_len : PySem.W.nsIn K mainGlobals "len" = some none
  b_range : PySem.W.nsIn K mainGlobals "range" = some none
  b_sorted : PySem.W.nsIn K mainGlobals "sorted" = some none
  b_str : PySem.W.nsIn K mainGlobals "str" = some none
  b_tuple : PySem.W.nsIn K mainGlobals "tuple" = some none
  c_WORDS : ∃ u, PySem.W.nsIn K mainGlobals "WORDS" = some (some u) ∧ ItIn K (.tuple [.str "lr", .str "hr", .str "rh", .str "st", .str "mrl", .str "hmrl", .str "icx", .str "icv", .str "lt", .str "mean", .str "pr", .str "median", .str "least", .str "most"]) u
  c_ALWAYS : ∃ u, PySem.W.nsIn K mainGlobals "ALWAYS" = some (some u) ∧ ItIn K (.tuple [.tuple [.str "lr", .str "hr"], .tuple [.str "lr", .str "rh"], .tuple [.str "hr", .str "st"], .tuple [.str "hr", .str "mrl"], .tuple [.str "rh", .str "st"], .tuple [.str "st", .str "icx"], .tuple [.str "st", .str "icv"], .tuple [.str "st", .str "pr"], .tuple [.str "st", .str "median"], .tuple [.str "mrl", .str "hmrl"], .tuple [.str "hmrl", .str "icx"], .tuple [.str "icx", .str "mean"], .tuple [.str "icx", .str "most"], .tuple [.str "icv", .str "lt"], .tuple [.str "lt", .str "mean"], .tuple [.str "lt", .str "least"]]) u
  c_SAME_MEAN : ∃ u, PySem.W.nsIn K mainGlobals "SAME_MEAN" = some (some u) ∧ ItIn K (.tuple [.tuple [.str "st", .str "lr"], .tuple [.str "icx", .str "hmrl"], .tuple [.str "lr", .str "mean"], .tuple [.str "hr", .str "mean"], .tuple [.str "rh", .str "mean"], .tuple [.str "st", .str "mean"], .tuple [.str "mrl", .str "mean"], .tuple [.str "hmrl", .str "mean"], .tuple [.str "icv", .str "mean"], .tuple [.str "pr", .str "mean"], .tuple [.str "median", .str "mean"], .tuple [.str "least", .str "mean"], .tuple [.str "most", .str "mean"]]) u
  c_SHOWN : ∃ u, PySem.W.nsIn K mainGlobals "SHOWN" = some (some u) ∧ DcIn K P [(.str "all", .tuple [.tuple [.tuple [.int 0, .int 1], .tuple [.int 1, .int 0, .int 1]], .tuple [.tuple [.int 1, .int 0, .int 1], .tuple [.int 0, .int 1]], .tuple [.tuple [.int 8, .int 8], .tuple [.int 9, .int 7]], .tuple [.tuple [.int 0, .int 2, .int 0, .int 1], .tuple [.int 0, .int 1, .int 1, .int 1]], .tuple [.tuple [.int 3, .int 10, .int 0, .int 14], .tuple [.int 2, .int 11, .int 1, .int 13]], .tuple [.tuple [.int 15, .int 12, .int 3], .tuple [.int 16, .int 10, .int 4]], .tuple [.tuple [.int 1, .int 2, .int 3, .int 2, .int 0, .int 1], .tuple [.int 0, .int 0, .int 2, .int 0, .int 0, .int 5]], .tuple [.tuple [.int 0, .int 13, .int 0, .int 2], .tuple [.int 1, .int 11, .int 1, .int 2]], .tuple [.tuple [.int 1, .int 0, .int 0, .int 0, .int 1], .tuple [.int 0, .int 1]], .tuple [.tuple [.int 15, .int 18, .int 10, .int 2, .int 16], .tuple [.int 15, .int 17, .int 12, .int 2, .int 14, .int 1]]]), (.str "same", .tuple [.tuple [.tuple [.int 0, .int 1], .tuple [.int 1, .int 0, .int 1]], .tuple [.tuple [.int 1, .int 0, .int 1], .tuple [.int 0, .int 1]], .tuple [.tuple [.int 15, .int 12, .int 3], .tuple [.int 16, .int 10, .int 4]], .tuple [.tuple [.int 3, .int 10, .int 0, .int 14], .tuple [.int 2, .int 11, .int 1, .int 13]], .tuple [.tuple [.int 0, .int 13, .int 0, .int 2], .tuple [.int 1, .int 11, .int 1, .int 2]], .tuple [.tuple [.int 15, .int 18, .int 10, .int 2, .int 16], .tuple [.int 15, .int 17, .int 12, .int 2, .int 14, .int 1]]])] u
  bVE : PySem.W.nsIn K mainGlobals "ValueError" = some none
  ex : ∃ CF : Addr, PySem.W.nsIn K mainGlobals "Fault" = some (some (.ref CF)) ∧ PySem.W.hasDictIn K CF = true ∧ PySem.W.typeIn K (.ref CF) = some (.type "type") ∧
    ∃ C_Malformed : Addr, ExIn K "Malformed" C_Malformed ∧ PySem.W.subIn K (.ref C_Malformed) (.ref CF) = some true ∧ PySem.W.subIn K (.ref C_Malformed) (.type "ValueError") = some true ∧ PySem.W.subIn K (.ref C_Malformed) (.ref C_Malformed) = some true
theorem ex_mk {K : PySem.W.Frag} {CF C_Malformed : Addr} (aF : PySem.W.nsIn K mainGlobals "Fault" = some (some (.ref CF))) (dF : PySem.W.hasDictIn K CF = true) (tF : PySem.W.typeIn K (.ref CF) = some (.type "type"))
    (e_Malformed : ExIn K "Malformed" C_Malformed) (f_Malformed : PySem.W.subIn K (.ref C_Malformed) (.ref CF) = some true) (v_Malformed : PySem.W.subIn K (.ref C_Malformed) (.type "ValueError") = some true) (s_Malformed_Malformed : PySem.W.subIn K (.ref C_Malformed) (.ref C_Malformed) = some true) : ∃ CF : Addr, PySem.W.nsIn K mainGlobals "Fault" = some (some (.ref CF)) ∧ PySem.W.hasDictIn K CF = true ∧ PySem.W.typeIn K (.ref CF) = some (.type "type") ∧
    ∃ C_Malformed : Addr, ExIn K "Malformed" C_Malformed ∧ PySem.W.subIn K (.ref C_Malformed) (.ref CF) = some true ∧ PySem.W.subIn K (.ref C_Malformed) (.type "ValueError") = some true ∧ PySem.W.subIn K (.ref C_Malformed) (.ref C_Malformed) = some true :=
  ⟨CF, aF, dF, tF, C_Malformed, e_Malformed, f_Malformed, v_Malformed, s_Malformed_Malformed⟩
section
variable {P0 : Program} {w : World} {K : PySem.W.Frag} {mg : Str → Option Value} {h base : Heap}
theorem bd_check_word (kV doc pm : Value) (an : Option Addr) (cdv ct : Value) (us : List Value) (hl : us.length = (F_check_word.ps : List Str).length) : bindArgs (PySem.W.fnOf "check_word" "check_word" (defArgs (top 5)) (defBody (top 5)) (defScope (top 5)) .none kV doc pm an cdv ct) ⟨us, []⟩ = pure ((F_check_word.ps : List Str).zip us) := match us, hl with | [_], _ => rfl
theorem bd_check_kind (kV doc pm : Value) (an : Option Addr) (cdv ct : Value) (us : List Value) (hl : us.length = (F_check_kind.ps : List Str).length) : bindArgs (PySem.W.fnOf "check_kind" "check_kind" (defArgs (top 10)) (defBody (top 10)) (defScope (top 10)) .none kV doc pm an cdv ct) ⟨us, []⟩ = pure ((F_check_kind.ps : List Str).zip us) := match us, hl with | [_], _ => rfl
theorem bd_arrows_of (kV doc pm : Value) (an : Option Addr) (cdv ct : Value) (us : List Value) (hl : us.length = (F_arrows_of.ps : List Str).length) : bindArgs (PySem.W.fnOf "arrows_of" "arrows_of" (defArgs (top 11)) (defBody (top 11)) (defScope (top 11)) .none kV doc pm an cdv ct) ⟨us, []⟩ = pure ((F_arrows_of.ps : List Str).zip us) := match us, hl with | [_], _ => rfl
theorem bd_arrows (kV doc pm : Value) (an : Option Addr) (cdv ct : Value) (us : List Value) (hl : us.length = (F_arrows.ps : List Str).length) : bindArgs (PySem.W.fnOf "arrows" "arrows" (defArgs (top 12)) (defBody (top 12)) (defScope (top 12)) .none kV doc pm an cdv ct) ⟨us, []⟩ = pure ((F_arrows.ps : List Str).zip us) := match us, hl with | [_], _ => rfl
theorem bd_chain_between (kV doc pm : Value) (an : Option Addr) (cdv ct : Value) (us : List Value) (hl : us.length = (F_chain_between.ps : List Str).length) : bindArgs (PySem.W.fnOf "chain_between" "chain_between" (defArgs (top 13)) (defBody (top 13)) (defScope (top 13)) .none kV doc pm an cdv ct) ⟨us, []⟩ = pure ((F_chain_between.ps : List Str).zip us) := match us, hl with | [_, _, _], _ => rfl
theorem bd_check_pair (kV doc pm : Value) (an : Option Addr) (cdv ct : Value) (us : List Value) (hl : us.length = (F_check_pair.ps : List Str).length) : bindArgs (PySem.W.fnOf "check_pair" "check_pair" (defArgs (top 14)) (defBody (top 14)) (defScope (top 14)) .none kV doc pm an cdv ct) ⟨us, []⟩ = pure ((F_check_pair.ps : List Str).zip us) := match us, hl with | [_, _, _], _ => rfl
theorem bd_does_force (kV doc pm : Value) (an : Option Addr) (cdv ct : Value) (us : List Value) (hl : us.length = (F_does_force.ps : List Str).length) : bindArgs (PySem.W.fnOf "does_force" "does_force" (defArgs (top 15)) (defBody (top 15)) (defScope (top 15)) .none kV doc pm an cdv ct) ⟨us, []⟩ = pure ((F_does_force.ps : List Str).zip us) := match us, hl with | [_, _, _], _ => rfl
theorem bd_all_forced (kV doc pm : Value) (an : Option Addr) (cdv ct : Value) (us : List Value) (hl : us.length = (F_all_forced.ps : List Str).length) : bindArgs (PySem.W.fnOf "all_forced" "all_forced" (defArgs (top 16)) (defBody (top 16)) (defScope (top 16)) .none kV doc pm an cdv ct) ⟨us, []⟩ = pure ((F_all_forced.ps : List Str).zip us) := match us, hl with | [_, _], _ => rfl
theorem bd__law_says (kV doc pm : Value) (an : Option Addr) (cdv ct : Value) (us : List Value) (hl : us.length = (F__law_says.ps : List Str).length) : bindArgs (PySem.W.fnOf "_law_says" "_law_says" (defArgs (top 20)) (defBody (top 20)) (defScope (top 20)) .none kV doc pm an cdv ct) ⟨us, []⟩ = pure ((F__law_says.ps : List Str).zip us) := match us, hl with | [_, _], _ => rfl
theorem bd__law_words (kV doc pm : Value) (an : Option Addr) (cdv ct : Value) (us : List Value) (hl : us.length = (F__law_words.ps : List Str).length) : bindArgs (PySem.W.fnOf "_law_words" "_law_words" (defArgs (top 21)) (defBody (top 21)) (defScope (top 21)) .none kV doc pm an cdv ct) ⟨us, []⟩ = pure ((F__law_words.ps : List Str).zip us) := match us, hl with | [], _ => rfl
theorem bd__law_arrows (kV doc pm : Value) (an : Option Addr) (cdv ct : Value) (us : List Value) (hl : us.length = (F__law_arrows.ps : List Str).length) : bindArgs (PySem.W.fnOf "_law_arrows" "_law_arrows" (defArgs (top 22)) (defBody (top 22)) (defScope (top 22)) .none kV doc pm an cdv ct) ⟨us, []⟩ = pure ((F__law_arrows.ps : List Str).zip us) := match us, hl with | [_], _ => rfl
theorem bd__law_reached (kV doc pm : Value) (an : Option Addr) (cdv ct : Value) (us : List Value) (hl : us.length = (F__law_reached.ps : List Str).length) : bindArgs (PySem.W.fnOf "_law_reached" "_law_reached" (defArgs (top 23)) (defBody (top 23)) (defScope (top 23)) .none kV doc pm an cdv ct) ⟨us, []⟩ = pure ((F__law_reached.ps : List Str).zip us) := match us, hl with | [_, _], _ => rfl
theorem bd__law_told (kV doc pm : Value) (an : Option Addr) (cdv ct : Value) (us : List Value) (hl : us.length = (F__law_told.ps : List Str).length) : bindArgs (PySem.W.fnOf "_law_told" "_law_told" (defArgs (top 24)) (defBody (top 24)) (defScope (top 24)) .none kV doc pm an cdv ct) ⟨us, []⟩ = pure ((F__law_told.ps : List Str).zip us) := match us, hl with | [_, _, _, _], _ => rfl
theorem bd__law_take (kV doc pm : Value) (an : Option Addr) (cdv ct : Value) (us : List Value) (hl : us.length = (["draw", "many"] : List Str).length) : bindArgs (PySem.W.fnOf "_law_take" "_law_take" (defArgs (top 19)) (defBody (top 19)) (defScope (top 19)) .none kV doc pm an cdv ct) ⟨us, []⟩ = pure ((["draw", "many"] : List Str).zip us) := match us, hl with | [_, _], _ => rfl
theorem bd__law_draw (kV doc pm : Value) (an : Option Addr) (cdv ct : Value) (us : List Value) (hl : us.length = (["script"] : List Str).length) : bindArgs (PySem.W.fnOf "_law_draw" "_law_draw" (defArgs (top 18)) (defBody (top 18)) (defScope (top 18)) .none kV doc pm an cdv ct) ⟨us, []⟩ = pure ((["script"] : List Str).zip us) := match us, hl with | [_], _ => rfl
theorem bd_law (kV doc pm : Value) (an : Option Addr) (cdv ct : Value) (us : List Value) (hl : us.length = (["script"] : List Str).length) : bindArgs (PySem.W.fnOf "law" "law" (defArgs (top 25)) (defBody (top 25)) (defScope (top 25)) .none kV doc pm an cdv ct) ⟨us, []⟩ = pure ((["script"] : List Str).zip us) := match us, hl with | [_], _ => rfl
theorem pg_ok (A : AllIn K w.params) (X : K.In h) (G : h.Ns mainGlobals mg) (cap cell : Addr) : PgOk ⟨P0, w, K, mg, base, cap, cell⟩ P 1 := by
  refine ⟨fun j call => ⟨fun x d hx => ?_, fun x hx => ?_, fun c hc => ?_, fun x F b hx => ?_⟩, fun x F hp hF => ?_, fun x p hp => ?_⟩
  · have hx := lookup_mem (show cstT.lookup x = some d from hx)
    simp only [cstT, List.mem_cons, List.mem_nil_iff, or_false, List.not_mem_nil, Prod.mk.injEq] at hx
    rcases hx with ⟨rfl, rfl⟩ | ⟨rfl, rfl⟩ | ⟨rfl, rfl⟩ | ⟨rfl, rfl⟩
    · obtain ⟨u, a, i⟩ := A.c_WORDS
      obtain ⟨v, r1, r2⟩ := ItIn.rp (U := ⟨P0, w, K, mg, base, cap, cell⟩) _ _ i
      exact ⟨u, v, PySem.W.mg_of X G a, r1, r2⟩
    · obtain ⟨u, a, i⟩ := A.c_ALWAYS
      obtain ⟨v, r1, r2⟩ := ItIn.rp (U := ⟨P0, w, K, mg, base, cap, cell⟩) _ _ i
      exact ⟨u, v, PySem.W.mg_of X G a, r1, r2⟩
    · obtain ⟨u, a, i⟩ := A.c_SAME_MEAN
      obtain ⟨v, r1, r2⟩ := ItIn.rp (U := ⟨P0, w, K, mg, base, cap, cell⟩) _ _ i
      exact ⟨u, v, PySem.W.mg_of X G a, r1, r2⟩
    · obtain ⟨u, a, i⟩ := A.c_SHOWN
      obtain ⟨v, r1, r2⟩ := DcIn.rp (U := ⟨P0, w, K, mg, base, cap, cell⟩) i
      exact ⟨u, v, PySem.W.mg_of X G a, r1, r2⟩
  · have hx : x ∈ bareT := of_decide_eq_true hx
    simp only [bareT, List.mem_cons, List.mem_nil_iff, or_false, List.not_mem_nil, Prod.mk.injEq] at hx
    rcases hx with rfl | rfl | rfl | rfl | rfl | rfl | rfl | rfl | rfl
    · exact PySem.W.mg_none_of X G A.b_abs
    · exact PySem.W.mg_none_of X G A.b_bool
    · exact PySem.W.mg_none_of X G A.b_int
    · exact PySem.W.mg_none_of X G A.b_isinstance
    · exact PySem.W.mg_none_of X G A.b_len
    · exact PySem.W.mg_none_of X G A.b_range
    · exact PySem.W.mg_none_of X G A.b_sorted
    · exact PySem.W.mg_none_of X G A.b_str
    · exact PySem.W.mg_none_of X G A.b_tuple
  · have hc : c ∈ excT := of_decide_eq_true hc
    obtain ⟨CF, aF, dF, tF, C_Malformed, E_Malformed, f_Malformed, v_Malformed, s_Malformed_Malformed⟩ := A.ex
    simp only [excT, List.mem_cons, List.mem_nil_iff, or_false, List.not_mem_nil, Prod.mk.injEq] at hc
    rcases hc with rfl
    · refine ⟨C_Malformed, PySem.W.mg_of X G E_Malformed.a, .inl ⟨by kernel_rfl, _, "ValueError", _, _, PySem.F.excBase_ValueError, E_Malformed.x, E_Malformed.k, fun X e => raises_own (by rw [e]; exact E_Malformed.e.hs) (by rw [e]; exact E_Malformed.t)⟩, fun c hc C1 hC => ?_⟩
      have hc : c ∈ excT := of_decide_eq_true hc
      simp only [excT, List.mem_cons, List.mem_nil_iff, or_false, List.not_mem_nil] at hc
      rcases hc with rfl
      · have e : C1 = .ref C_Malformed := Option.some.inj (hC.symm.trans (PySem.W.mg_of X G E_Malformed.a))
        subst e
        exact (PySem.W.exm_ref E_Malformed.e.hs E_Malformed.e.hd E_Malformed.t s_Malformed_Malformed).trans (congrArg some (by decide +kernel))
  · have hx := lookup_mem2 (show subT.lookup (x, F) = some b from hx)
    obtain ⟨CF, aF, dF, tF, C_Malformed, E_Malformed, f_Malformed, v_Malformed, s_Malformed_Malformed⟩ := A.ex
    simp only [subT, List.mem_cons, List.mem_nil_iff, or_false, List.not_mem_nil, Prod.mk.injEq] at hx
    rcases hx with ⟨⟨rfl, rfl⟩, rfl⟩ | ⟨⟨rfl, rfl⟩, rfl⟩
    · exact ⟨C_Malformed, .ref CF, .ref CF, PySem.W.mg_of X G E_Malformed.a, E_Malformed.e, .inl (PySem.W.mg_of X G aF), rfl, fun u hu => hu, kit_ref dF tF f_Malformed⟩
    · exact ⟨C_Malformed, .type "ValueError", .ty "ValueError", PySem.W.mg_of X G E_Malformed.a, E_Malformed.e, .inr ⟨PySem.W.mg_none_of X G A.bVE, by kernel_rfl⟩, rfl, fun u hu => hu, kit_ty' (by decide +kernel) v_Malformed⟩
  · have hF := lookup_mem (show fdT.lookup x = some F from hF)
    simp only [fdT, List.mem_cons, List.mem_nil_iff, or_false, List.not_mem_nil, Prod.mk.injEq] at hF
    rcases hF with ⟨rfl, rfl⟩ | ⟨rfl, rfl⟩ | ⟨rfl, rfl⟩ | ⟨rfl, rfl⟩ | ⟨rfl, rfl⟩ | ⟨rfl, rfl⟩ | ⟨rfl, rfl⟩ | ⟨rfl, rfl⟩ | ⟨rfl, rfl⟩ | ⟨rfl, rfl⟩ | ⟨rfl, rfl⟩ | ⟨rfl, rfl⟩ | ⟨rfl, rfl⟩
    · obtain ⟨f, fd, F, m, b⟩ := A.d_check_word.fn X G F_check_word.ps bd_check_word
      exact ⟨_, _, _, f, fd, F, sc_check_word, rfl, rfl, m, b⟩
    · obtain ⟨f, fd, F, m, b⟩ := A.d_check_kind.fn X G F_check_kind.ps bd_check_kind
      exact ⟨_, _, _, f, fd, F, sc_check_kind, rfl, rfl, m, b⟩
    · obtain ⟨f, fd, F, m, b⟩ := A.d_arrows_of.fn X G F_arrows_of.ps bd_arrows_of
      exact ⟨_, _, _, f, fd, F, sc_arrows_of, rfl, rfl, m, b⟩
    · obtain ⟨f, fd, F, m, b⟩ := A.d_arrows.fn X G F_arrows.ps bd_arrows
      exact ⟨_, _, _, f, fd, F, sc_arrows, rfl, rfl, m, b⟩
    · obtain ⟨f, fd, F, m, b⟩ := A.d_chain_between.fn X G F_chain_between.ps bd_chain_between
      exact ⟨_, _, _, f, fd, F, sc_chain_between, rfl, rfl, m, b⟩
    · obtain ⟨f, fd, F, m, b⟩ := A.d_check_pair.fn X G F_check_pair.ps bd_check_pair
      exact ⟨_, _, _, f, fd, F, sc_check_pair, rfl, rfl, m, b⟩
    · obtain ⟨f, fd, F, m, b⟩ := A.d_does_force.fn X G F_does_force.ps bd_does_force
      exact ⟨_, _, _, f, fd, F, sc_does_force, rfl, rfl, m, b⟩
    · obtain ⟨f, fd, F, m, b⟩ := A.d_all_forced.fn X G F_all_forced.ps bd_all_forced
      exact ⟨_, _, _, f, fd, F, sc_all_forced, rfl, rfl, m, b⟩
    · obtain ⟨f, fd, F, m, b⟩ := A.d__law_says.fn X G F__law_says.ps bd__law_says
      exact ⟨_, _, _, f, fd, F, sc__law_says, rfl, rfl, m, b⟩
    · obtain ⟨f, fd, F, m, b⟩ := A.d__law_words.fn X G F__law_words.ps bd__law_words
      exact ⟨_, _, _, f, fd, F, sc__law_words, rfl, rfl, m, b⟩
    · obtain ⟨f, fd, F, m, b⟩ := A.d__law_arrows.fn X G F__law_arrows.ps bd__law_arrows
      exact ⟨_, _, _, f, fd, F, sc__law_arrows, rfl, rfl, m, b⟩
    · obtain ⟨f, fd, F, m, b⟩ := A.d__law_reached.fn X G F__law_reached.ps bd__law_reached
      exact ⟨_, _, _, f, fd, F, sc__law_reached, rfl, rfl, m, b⟩
    · obtain ⟨f, fd, F, m, b⟩ := A.d__law_told.fn X G F__law_told.ps bd__law_told
      exact ⟨_, _, _, f, fd, F, sc__law_told, rfl, rfl, m, b⟩
  · have hp : (if x = ("_law_take" : Str) then some takeP else none) = some p := hp
    split at hp
    · rename_i e
      subst e
      cases hp
      obtain ⟨f, fd, F, m, b⟩ := A.d_take.fn X G ["draw", "many"] bd__law_take
      refine ⟨f, fd, _, m, F.kp, b, ok_take F (PySem.W.mg_none_of X G A.b_len) (PySem.W.mg_none_of X G A.b_int), fun ds s hl => ?_⟩
      unfold takeP
      split
      · exact absurd rfl hl
      · rfl
    · cases hp
theorem wp_of {α : Type} {m m2 : M α} {s : DS} {Q : α → DS → Prop} {E : Exc → DS → Prop} (h : m = m2) (q : (m2 s).sat Q) : Wp m s Q E := by
  subst h
  unfold Wp
  obtain ⟨a, s2, e, q⟩ := q.ex
  rw [e]
  exact q
theorem law_run : LawRun P 4 2000 nLaw (defScope (top 25)) ((defBody (top 25)).drop 1) := fun ns sd _ h0 h1 => wp_of (l_law (P.call 2000 4) 2000 (startL nLaw.length)) (law_runs 2000 (by decide) ⟨Int.le_refl _, h0, h1⟩)
theorem all_law (A : AllIn K w.params) (X : K.In h) (G : h.Ns mainGlobals mg) {fa : Addr} (hfa : mg "law" = some (.ref fa)) : ∃ fd : FuncData, (∀ (s : Shared) (u : Value), BindsTo s fd ⟨[u], []⟩ [("script", u)]) ∧ ∀ base : Heap, K.In base → base.Ns mainGlobals mg → FnOk P0 w K mg base (L2.CX P0 w) 6 fa fd ["script"] (spLaw K) := by
  obtain ⟨f, oc, od, an, osl, kV, doc, pm, cdv, ct, a, l, c, k⟩ := A.d_law.ex
  have F := fun_mk l c k
  have e : fa = f := by have := hfa.symm.trans (PySem.W.mg_of X G a); cases this; rfl
  subst e
  refine ⟨PySem.W.fnOf "law" "law" (defArgs (top 25)) (defBody (top 25)) (defScope (top 25)) .none kV doc pm an cdv ct, fun s u => .of_eq rfl, fun base _ _ => ?_⟩
  obtain ⟨fd_, fdd, Fd_, md, bd⟩ := A.d_draw.fn X G ["script"] bd__law_draw
  have D0 : FnOk P0 w K mg base (L2.CX P0 w) 1 fd_ fdd ["script"] (spDraw K) := ok_draw Fd_ (PySem.W.mg_none_of X G A.b_abs) (PySem.W.mg_none_of X G A.b_int)
  exact law_sound (P := P) (k0 := 1) (j := 4) (w := 2000) (N := nLaw) (rest := (defBody (top 25)).drop 1) (fun cap cell => pg_ok A X G cap cell) F sc_law rfl rfl rfl rfl (by first | exact .inl rfl | exact .inr rfl) rfl D0 md Fd_.kp bd (Nat.le_refl 1) law_run
theorem walk_law {l : PySem.W.OpenLaw} {q : Program} {loose : List Str} {XP : (Str → Option Value) → Heap → Prop} {YP : World → Heap → Prop} {d : DefRec} {K : Params → PySem.W.Frag} (hn : l.most = some 63) (hdf : d.params.defaults = [])
    (hY : ∀ (w : World) (h : Heap), YP w h → (K w.params).In h)
    (F : ∀ (w : World) (mg : Str → Option Value) (fa : Addr) (h : Heap), (K w.params).In h → h.Ns mainGlobals mg → mg d.name = some (.ref fa) →
      ∃ fd : FuncData, (∀ (s : Shared) (u : Value), BindsTo s fd ⟨[u], []⟩ [("script", u)]) ∧ ∀ base : Heap, (K w.params).In base → base.Ns mainGlobals mg → FnOk l.prog w (K w.params) mg base (L2.CX l.prog w) 6 fa fd ["script"] (spLaw (K w.params))) :
    PySem.W.WalkO q loose XP YP l.row.toRowW d [] (fun f vs => PySem.call f vs) :=
  L2.walk_of (n := 63) (k := 6) (x := "script") (CX := fun w => L2.CX l.prog w) (sp := fun w => spLaw (K w.params)) hn (by decide) hdf ⟨rfl, by decide, by decide⟩ hY F (fun _ _ a ns hl _ hS => ⟨a, ns, rfl, hS, hl, fun _ => rfl⟩) fun _ _ _ _ _ ⟨_, _, _, _, _, _, _, _, _, _, _, _, z⟩ => z
end
end Py
open PySem PySem.W PyProof.Rows
set_option maxRecDepth 100000 in
set_option maxHeartbeats 0 in
theorem PySem.Challenge.cw_drawnhigher_k08_arrows_and_chains_holds : PySem.Challenge.rw_drawnhigher_k08_arrows_and_chains.Holds := by
  w_on; o_law; k_head; (case hw => w_witness2)
  k_fill
  refine Py.walk_law (l := PySem.Challenge.rw_drawnhigher_k08_arrows_and_chains) rfl rfl (fun w h Y => PySem.W.kIn_of Y) ?F
  case F =>
    intro w mg fa h KX G hmg
    refine' Py.all_law ?A KX G hmg
    case A =>
      refine' ⟨?d_check_word, ?d_check_kind, ?d_arrows_of, ?d_arrows, ?d_chain_between, ?d_check_pair, ?d_does_force, ?d_all_forced, ?d__law_says, ?d__law_words, ?d__law_arrows, ?d__law_reached, ?d__law_told, ?d_take, ?d_draw, ?d_law, ?b_abs, ?b_bool, ?b_int, ?b_isinstance, ?b_len, ?b_range, ?b_sorted, ?b_str, ?b_tuple, ?c_WORDS, ?c_ALWAYS, ?c_SAME_MEAN, ?c_SHOWN, ?bVE, ?ex⟩
      case d_check_word => refine' Py.def_mk ?a ?l ?c ?k; (case a => k_is); (case l => k_is); (case c => k_is); (case k => k_is)
      case d_check_kind => refine' Py.def_mk ?a ?l ?c ?k; (case a => k_is); (case l => k_is); (case c => k_is); (case k => k_is)
      case d_arrows_of => refine' Py.def_mk ?a ?l ?c ?k; (case a => k_is); (case l => k_is); (case c => k_is); (case k => k_is)
      case d_arrows => refine' Py.def_mk ?a ?l ?c ?k; (case a => k_is); (case l => k_is); (case c => k_is); (case k => k_is)
      case d_chain_between => refine' Py.def_mk ?a ?l ?c ?k; (case a => k_is); (case l => k_is); (case c => k_is); (case k => k_is)
      case d_check_pair => refine' Py.def_mk ?a ?l ?c ?k; (case a => k_is); (case l => k_is); (case c => k_is); (case k => k_is)
      case d_does_force => refine' Py.def_mk ?a ?l ?c ?k; (case a => k_is); (case l => k_is); (case c => k_is); (case k => k_is)
      case d_all_forced => refine' Py.def_mk ?a ?l ?c ?k; (case a => k_is); (case l => k_is); (case c => k_is); (case k => k_is)
      case d__law_says => refine' Py.def_mk ?a ?l ?c ?k; (case a => k_is); (case l => k_is); (case c => k_is); (case k => k_is)
      case d__law_words => refine' Py.def_mk ?a ?l ?c ?k; (case a => k_is); (case l => k_is); (case c => k_is); (case k => k_is)
      case d__law_arrows => refine' Py.def_mk ?a ?l ?c ?k; (case a => k_is); (case l => k_is); (case c => k_is); (case k => k_is)
      case d__law_reached => refine' Py.def_mk ?a ?l ?c ?k; (case a => k_is); (case l => k_is); (case c => k_is); (case k => k_is)
      case d__law_told => refine' Py.def_mk ?a ?l ?c ?k; (case a => k_is); (case l => k_is); (case c => k_is); (case k => k_is)
      case d_take => refine' Py.def_mk ?a ?l ?c ?k; (case a => k_is); (case l => k_is); (case c => k_is); (case k => k_is)
      case d_draw => refine' Py.def_mk ?a ?l ?c ?k; (case a => k_is); (case l => k_is); (case c => k_is); (case k => k_is)
      case d_law => refine' Py.def_mk ?a ?l ?c ?k; (case a => k_is); (case l => k_is); (case c => k_is); (case k => k_is)
      case b_abs => k_is
      case b_bool => k_is
      case b_int => k_is
      case b_isinstance => k_is
      case b_len => k_is
      case b_range => k_is
      case b_sorted => k_is
      case b_str => k_is
      case b_tuple => k_is
      case c_WORDS => refine' Py.cst_mk ?a ?i; (case a => k_is); (case i => refine' Py.itT ?l1 ?r1 ?hs1; (case l1 => k_is); (case hs1 => decide); (case r1 => refine' Py.itC ?x2 ?xs2; (case x2 => exact Py.itS); (case xs2 => refine' Py.itC ?x3 ?xs3; (case x3 => exact Py.itS); (case xs3 => refine' Py.itC ?x4 ?xs4; (case x4 => exact Py.itS); (case xs4 => refine' Py.itC ?x5 ?xs5; (case x5 => exact Py.itS); (case xs5 => refine' Py.itC ?x6 ?xs6; (case x6 => exact Py.itS); (case xs6 => refine' Py.itC ?x7 ?xs7; (case x7 => exact Py.itS); (case xs7 => refine' Py.itC ?x8 ?xs8; (case x8 => exact Py.itS); (case xs8 => refine' Py.itC ?x9 ?xs9; (case x9 => exact Py.itS); (case xs9 => refine' Py.itC ?x10 ?xs10; (case x10 => exact Py.itS); (case xs10 => refine' Py.itC ?x11 ?xs11; (case x11 => exact Py.itS); (case xs11 => refine' Py.itC ?x12 ?xs12; (case x12 => exact Py.itS); (case xs12 => refine' Py.itC ?x13 ?xs13; (case x13 => exact Py.itS); (case xs13 => refine' Py.itC ?x14 ?xs14; (case x14 => exact Py.itS); (case xs14 => refine' Py.itC ?x15 ?xs15; (case x15 => exact Py.itS); (case xs15 => exact Py.itN))))))))))))))))
      case c_ALWAYS => refine' Py.cst_mk ?a ?i; (case a => k_is); (case i => refine' Py.itT ?l16 ?r16 ?hs16; (case l16 => k_is); (case hs16 => decide); (case r16 => refine' Py.itC ?x17 ?xs17; (case x17 => refine' Py.itT ?l18 ?r18 ?hs18; (case l18 => k_is); (case hs18 => decide); (case r18 => refine' Py.itC ?x19 ?xs19; (case x19 => exact Py.itS); (case xs19 => refine' Py.itC ?x20 ?xs20; (case x20 => exact Py.itS); (case xs20 => exact Py.itN)))); (case xs17 => refine' Py.itC ?x21 ?xs21; (case x21 => refine' Py.itT ?l22 ?r22 ?hs22; (case l22 => k_is); (case hs22 => decide); (case r22 => refine' Py.itC ?x23 ?xs23; (case x23 => exact Py.itS); (case xs23 => refine' Py.itC ?x24 ?xs24; (case x24 => exact Py.itS); (case xs24 => exact Py.itN)))); (case xs21 => refine' Py.itC ?x25 ?xs25; (case x25 => refine' Py.itT ?l26 ?r26 ?hs26; (case l26 => k_is); (case hs26 => decide); (case r26 => refine' Py.itC ?x27 ?xs27; (case x27 => exact Py.itS); (case xs27 => refine' Py.itC ?x28 ?xs28; (case x28 => exact Py.itS); (case xs28 => exact Py.itN)))); (case xs25 => refine' Py.itC ?x29 ?xs29; (case x29 => refine' Py.itT ?l30 ?r30 ?hs30; (case l30 => k_is); (case hs30 => decide); (case r30 => refine' Py.itC ?x31 ?xs31; (case x31 => exact Py.itS); (case xs31 => refine' Py.itC ?x32 ?xs32; (case x32 => exact Py.itS); (case xs32 => exact Py.itN)))); (case xs29 => refine' Py.itC ?x33 ?xs33; (case x33 => refine' Py.itT ?l34 ?r34 ?hs34; (case l34 => k_is); (case hs34 => decide); (case r34 => refine' Py.itC ?x35 ?xs35; (case x35 => exact Py.itS); (case xs35 => refine' Py.itC ?x36 ?xs36; (case x36 => exact Py.itS); (case xs36 => exact Py.itN)))); (case xs33 => refine' Py.itC ?x37 ?xs37; (case x37 => refine' Py.itT ?l38 ?r38 ?hs38; (case l38 => k_is); (case hs38 => decide); (case r38 => refine' Py.itC ?x39 ?xs39; (case x39 => exact Py.itS); (case xs39 => refine' Py.itC ?x40 ?xs40; (case x40 => exact Py.itS); (case xs40 => exact Py.itN)))); (case xs37 => refine' Py.itC ?x41 ?xs41; (case x41 => refine' Py.itT ?l42 ?r42 ?hs42; (case l42 => k_is); (case hs42 => decide); (case r42 => refine' Py.itC ?x43 ?xs43; (case x43 => exact Py.itS); (case xs43 => refine' Py.itC ?x44 ?xs44; (case x44 => exact Py.itS); (case xs44 => exact Py.itN)))); (case xs41 => refine' Py.itC ?x45 ?xs45; (case x45 => refine' Py.itT ?l46 ?r46 ?hs46; (case l46 => k_is); (case hs46 => decide); (case r46 => refine' Py.itC ?x47 ?xs47; (case x47 => exact Py.itS); (case xs47 => refine' Py.itC ?x48 ?xs48; (case x48 => exact Py.itS); (case xs48 => exact Py.itN)))); (case xs45 => refine' Py.itC ?x49 ?xs49; (case x49 => refine' Py.itT ?l50 ?r50 ?hs50; (case l50 => k_is); (case hs50 => decide); (case r50 => refine' Py.itC ?x51 ?xs51; (case x51 => exact Py.itS); (case xs51 => refine' Py.itC ?x52 ?xs52; (case x52 => exact Py.itS); (case xs52 => exact Py.itN)))); (case xs49 => refine' Py.itC ?x53 ?xs53; (case x53 => refine' Py.itT ?l54 ?r54 ?hs54; (case l54 => k_is); (case hs54 => decide); (case r54 => refine' Py.itC ?x55 ?xs55; (case x55 => exact Py.itS); (case xs55 => refine' Py.itC ?x56 ?xs56; (case x56 => exact Py.itS); (case xs56 => exact Py.itN)))); (case xs53 => refine' Py.itC ?x57 ?xs57; (case x57 => refine' Py.itT ?l58 ?r58 ?hs58; (case l58 => k_is); (case hs58 => decide); (case r58 => refine' Py.itC ?x59 ?xs59; (case x59 => exact Py.itS); (case xs59 => refine' Py.itC ?x60 ?xs60; (case x60 => exact Py.itS); (case xs60 => exact Py.itN)))); (case xs57 => refine' Py.itC ?x61 ?xs61; (case x61 => refine' Py.itT ?l62 ?r62 ?hs62; (case l62 => k_is); (case hs62 => decide); (case r62 => refine' Py.itC ?x63 ?xs63; (case x63 => exact Py.itS); (case xs63 => refine' Py.itC ?x64 ?xs64; (case x64 => exact Py.itS); (case xs64 => exact Py.itN)))); (case xs61 => refine' Py.itC ?x65 ?xs65; (case x65 => refine' Py.itT ?l66 ?r66 ?hs66; (case l66 => k_is); (case hs66 => decide); (case r66 => refine' Py.itC ?x67 ?xs67; (case x67 => exact Py.itS); (case xs67 => refine' Py.itC ?x68 ?xs68; (case x68 => exact Py.itS); (case xs68 => exact Py.itN)))); (case xs65 => refine' Py.itC ?x69 ?xs69; (case x69 => refine' Py.itT ?l70 ?r70 ?hs70; (case l70 => k_is); (case hs70 => decide); (case r70 => refine' Py.itC ?x71 ?xs71; (case x71 => exact Py.itS); (case xs71 => refine' Py.itC ?x72 ?xs72; (case x72 => exact Py.itS); (case xs72 => exact Py.itN)))); (case xs69 => refine' Py.itC ?x73 ?xs73; (case x73 => refine' Py.itT ?l74 ?r74 ?hs74; (case l74 => k_is); (case hs74 => decide); (case r74 => refine' Py.itC ?x75 ?xs75; (case x75 => exact Py.itS); (case xs75 => refine' Py.itC ?x76 ?xs76; (case x76 => exact Py.itS); (case xs76 => exact Py.itN)))); (case xs73 => refine' Py.itC ?x77 ?xs77; (case x77 => refine' Py.itT ?l78 ?r78 ?hs78; (case l78 => k_is); (case hs78 => decide); (case r78 => refine' Py.itC ?x79 ?xs79; (case x79 => exact Py.itS); (case xs79 => refine' Py.itC ?x80 ?xs80; (case x80 => exact Py.itS); (case xs80 => exact Py.itN)))); (case xs77 => exact Py.itN))))))))))))))))))
      case c_SAME_MEAN => refine' Py.cst_mk ?a ?i; (case a => k_is); (case i => refine' Py.itT ?l81 ?r81 ?hs81; (case l81 => k_is); (case hs81 => decide); (case r81 => refine' Py.itC ?x82 ?xs82; (case x82 => refine' Py.itT ?l83 ?r83 ?hs83; (case l83 => k_is); (case hs83 => decide); (case r83 => refine' Py.itC ?x84 ?xs84; (case x84 => exact Py.itS); (case xs84 => refine' Py.itC ?x85 ?xs85; (case x85 => exact Py.itS); (case xs85 => exact Py.itN)))); (case xs82 => refine' Py.itC ?x86 ?xs86; (case x86 => refine' Py.itT ?l87 ?r87 ?hs87; (case l87 => k_is); (case hs87 => decide); (case r87 => refine' Py.itC ?x88 ?xs88; (case x88 => exact Py.itS); (case xs88 => refine' Py.itC ?x89 ?xs89; (case x89 => exact Py.itS); (case xs89 => exact Py.itN)))); (case xs86 => refine' Py.itC ?x90 ?xs90; (case x90 => refine' Py.itT ?l91 ?r91 ?hs91; (case l91 => k_is); (case hs91 => decide); (case r91 => refine' Py.itC ?x92 ?xs92; (case x92 => exact Py.itS); (case xs92 => refine' Py.itC ?x93 ?xs93; (case x93 => exact Py.itS); (case xs93 => exact Py.itN)))); (case xs90 => refine' Py.itC ?x94 ?xs94; (case x94 => refine' Py.itT ?l95 ?r95 ?hs95; (case l95 => k_is); (case hs95 => decide); (case r95 => refine' Py.itC ?x96 ?xs96; (case x96 => exact Py.itS); (case xs96 => refine' Py.itC ?x97 ?xs97; (case x97 => exact Py.itS); (case xs97 => exact Py.itN)))); (case xs94 => refine' Py.itC ?x98 ?xs98; (case x98 => refine' Py.itT ?l99 ?r99 ?hs99; (case l99 => k_is); (case hs99 => decide); (case r99 => refine' Py.itC ?x100 ?xs100; (case x100 => exact Py.itS); (case xs100 => refine' Py.itC ?x101 ?xs101; (case x101 => exact Py.itS); (case xs101 => exact Py.itN)))); (case xs98 => refine' Py.itC ?x102 ?xs102; (case x102 => refine' Py.itT ?l103 ?r103 ?hs103; (case l103 => k_is); (case hs103 => decide); (case r103 => refine' Py.itC ?x104 ?xs104; (case x104 => exact Py.itS); (case xs104 => refine' Py.itC ?x105 ?xs105; (case x105 => exact Py.itS); (case xs105 => exact Py.itN)))); (case xs102 => refine' Py.itC ?x106 ?xs106; (case x106 => refine' Py.itT ?l107 ?r107 ?hs107; (case l107 => k_is); (case hs107 => decide); (case r107 => refine' Py.itC ?x108 ?xs108; (case x108 => exact Py.itS); (case xs108 => refine' Py.itC ?x109 ?xs109; (case x109 => exact Py.itS); (case xs109 => exact Py.itN)))); (case xs106 => refine' Py.itC ?x110 ?xs110; (case x110 => refine' Py.itT ?l111 ?r111 ?hs111; (case l111 => k_is); (case hs111 => decide); (case r111 => refine' Py.itC ?x112 ?xs112; (case x112 => exact Py.itS); (case xs112 => refine' Py.itC ?x113 ?xs113; (case x113 => exact Py.itS); (case xs113 => exact Py.itN)))); (case xs110 => refine' Py.itC ?x114 ?xs114; (case x114 => refine' Py.itT ?l115 ?r115 ?hs115; (case l115 => k_is); (case hs115 => decide); (case r115 => refine' Py.itC ?x116 ?xs116; (case x116 => exact Py.itS); (case xs116 => refine' Py.itC ?x117 ?xs117; (case x117 => exact Py.itS); (case xs117 => exact Py.itN)))); (case xs114 => refine' Py.itC ?x118 ?xs118; (case x118 => refine' Py.itT ?l119 ?r119 ?hs119; (case l119 => k_is); (case hs119 => decide); (case r119 => refine' Py.itC ?x120 ?xs120; (case x120 => exact Py.itS); (case xs120 => refine' Py.itC ?x121 ?xs121; (case x121 => exact Py.itS); (case xs121 => exact Py.itN)))); (case xs118 => refine' Py.itC ?x122 ?xs122; (case x122 => refine' Py.itT ?l123 ?r123 ?hs123; (case l123 => k_is); (case hs123 => decide); (case r123 => refine' Py.itC ?x124 ?xs124; (case x124 => exact Py.itS); (case xs124 => refine' Py.itC ?x125 ?xs125; (case x125 => exact Py.itS); (case xs125 => exact Py.itN)))); (case xs122 => refine' Py.itC ?x126 ?xs126; (case x126 => refine' Py.itT ?l127 ?r127 ?hs127; (case l127 => k_is); (case hs127 => decide); (case r127 => refine' Py.itC ?x128 ?xs128; (case x128 => exact Py.itS); (case xs128 => refine' Py.itC ?x129 ?xs129; (case x129 => exact Py.itS); (case xs129 => exact Py.itN)))); (case xs126 => refine' Py.itC ?x130 ?xs130; (case x130 => refine' Py.itT ?l131 ?r131 ?hs131; (case l131 => k_is); (case hs131 => decide); (case r131 => refine' Py.itC ?x132 ?xs132; (case x132 => exact Py.itS); (case xs132 => refine' Py.itC ?x133 ?xs133; (case x133 => exact Py.itS); (case xs133 => exact Py.itN)))); (case xs130 => exact Py.itN)))))))))))))))
      case c_SHOWN => refine' Py.dc_mk ?a ?l ?hs ?dcq; (case a => k_is); (case l => k_is); (case hs => first | rfl | decide); (case dcq => refine' Py.esC ?hh134 ?x134 ?xs134; (case hh134 => first | rfl | kernel_rfl); (case x134 => refine' Py.itT ?l135 ?r135 ?hs135; (case l135 => k_is); (case hs135 => decide); (case r135 => refine' Py.itC ?x136 ?xs136; (case x136 => refine' Py.itT ?l137 ?r137 ?hs137; (case l137 => k_is); (case hs137 => decide); (case r137 => refine' Py.itC ?x138 ?xs138; (case x138 => refine' Py.itT ?l139 ?r139 ?hs139; (case l139 => k_is); (case hs139 => decide); (case r139 => refine' Py.itC ?x140 ?xs140; (case x140 => exact Py.itI); (case xs140 => refine' Py.itC ?x141 ?xs141; (case x141 => exact Py.itI); (case xs141 => exact Py.itN)))); (case xs138 => refine' Py.itC ?x142 ?xs142; (case x142 => refine' Py.itT ?l143 ?r143 ?hs143; (case l143 => k_is); (case hs143 => decide); (case r143 => refine' Py.itC ?x144 ?xs144; (case x144 => exact Py.itI); (case xs144 => refine' Py.itC ?x145 ?xs145; (case x145 => exact Py.itI); (case xs145 => refine' Py.itC ?x146 ?xs146; (case x146 => exact Py.itI); (case xs146 => exact Py.itN))))); (case xs142 => exact Py.itN)))); (case xs136 => refine' Py.itC ?x147 ?xs147; (case x147 => refine' Py.itT ?l148 ?r148 ?hs148; (case l148 => k_is); (case hs148 => decide); (case r148 => refine' Py.itC ?x149 ?xs149; (case x149 => refine' Py.itT ?l150 ?r150 ?hs150; (case l150 => k_is); (case hs150 => decide); (case r150 => refine' Py.itC ?x151 ?xs151; (case x151 => exact Py.itI); (case xs151 => refine' Py.itC ?x152 ?xs152; (case x152 => exact Py.itI); (case xs152 => refine' Py.itC ?x153 ?xs153; (case x153 => exact Py.itI); (case xs153 => exact Py.itN))))); (case xs149 => refine' Py.itC ?x154 ?xs154; (case x154 => refine' Py.itT ?l155 ?r155 ?hs155; (case l155 => k_is); (case hs155 => decide); (case r155 => refine' Py.itC ?x156 ?xs156; (case x156 => exact Py.itI); (case xs156 => refine' Py.itC ?x157 ?xs157; (case x157 => exact Py.itI); (case xs157 => exact Py.itN)))); (case xs154 => exact Py.itN)))); (case xs147 => refine' Py.itC ?x158 ?xs158; (case x158 => refine' Py.itT ?l159 ?r159 ?hs159; (case l159 => k_is); (case hs159 => decide); (case r159 => refine' Py.itC ?x160 ?xs160; (case x160 => refine' Py.itT ?l161 ?r161 ?hs161; (case l161 => k_is); (case hs161 => decide); (case r161 => refine' Py.itC ?x162 ?xs162; (case x162 => exact Py.itI); (case xs162 => refine' Py.itC ?x163 ?xs163; (case x163 => exact Py.itI); (case xs163 => exact Py.itN)))); (case xs160 => refine' Py.itC ?x164 ?xs164; (case x164 => refine' Py.itT ?l165 ?r165 ?hs165; (case l165 => k_is); (case hs165 => decide); (case r165 => refine' Py.itC ?x166 ?xs166; (case x166 => exact Py.itI); (case xs166 => refine' Py.itC ?x167 ?xs167; (case x167 => exact Py.itI); (case xs167 => exact Py.itN)))); (case xs164 => exact Py.itN)))); (case xs158 => refine' Py.itC ?x168 ?xs168; (case x168 => refine' Py.itT ?l169 ?r169 ?hs169; (case l169 => k_is); (case hs169 => decide); (case r169 => refine' Py.itC ?x170 ?xs170; (case x170 => refine' Py.itT ?l171 ?r171 ?hs171; (case l171 => k_is); (case hs171 => decide); (case r171 => refine' Py.itC ?x172 ?xs172; (case x172 => exact Py.itI); (case xs172 => refine' Py.itC ?x173 ?xs173; (case x173 => exact Py.itI); (case xs173 => refine' Py.itC ?x174 ?xs174; (case x174 => exact Py.itI); (case xs174 => refine' Py.itC ?x175 ?xs175; (case x175 => exact Py.itI); (case xs175 => exact Py.itN)))))); (case xs170 => refine' Py.itC ?x176 ?xs176; (case x176 => refine' Py.itT ?l177 ?r177 ?hs177; (case l177 => k_is); (case hs177 => decide); (case r177 => refine' Py.itC ?x178 ?xs178; (case x178 => exact Py.itI); (case xs178 => refine' Py.itC ?x179 ?xs179; (case x179 => exact Py.itI); (case xs179 => refine' Py.itC ?x180 ?xs180; (case x180 => exact Py.itI); (case xs180 => refine' Py.itC ?x181 ?xs181; (case x181 => exact Py.itI); (case xs181 => exact Py.itN)))))); (case xs176 => exact Py.itN)))); (case xs168 => refine' Py.itC ?x182 ?xs182; (case x182 => refine' Py.itT ?l183 ?r183 ?hs183; (case l183 => k_is); (case hs183 => decide); (case r183 => refine' Py.itC ?x184 ?xs184; (case x184 => refine' Py.itT ?l185 ?r185 ?hs185; (case l185 => k_is); (case hs185 => decide); (case r185 => refine' Py.itC ?x186 ?xs186; (case x186 => exact Py.itI); (case xs186 => refine' Py.itC ?x187 ?xs187; (case x187 => exact Py.itI); (case xs187 => refine' Py.itC ?x188 ?xs188; (case x188 => exact Py.itI); (case xs188 => refine' Py.itC ?x189 ?xs189; (case x189 => exact Py.itI); (case xs189 => exact Py.itN)))))); (case xs184 => refine' Py.itC ?x190 ?xs190; (case x190 => refine' Py.itT ?l191 ?r191 ?hs191; (case l191 => k_is); (case hs191 => decide); (case r191 => refine' Py.itC ?x192 ?xs192; (case x192 => exact Py.itI); (case xs192 => refine' Py.itC ?x193 ?xs193; (case x193 => exact Py.itI); (case xs193 => refine' Py.itC ?x194 ?xs194; (case x194 => exact Py.itI); (case xs194 => refine' Py.itC ?x195 ?xs195; (case x195 => exact Py.itI); (case xs195 => exact Py.itN)))))); (case xs190 => exact Py.itN)))); (case xs182 => refine' Py.itC ?x196 ?xs196; (case x196 => refine' Py.itT ?l197 ?r197 ?hs197; (case l197 => k_is); (case hs197 => decide); (case r197 => refine' Py.itC ?x198 ?xs198; (case x198 => refine' Py.itT ?l199 ?r199 ?hs199; (case l199 => k_is); (case hs199 => decide); (case r199 => refine' Py.itC ?x200 ?xs200; (case x200 => exact Py.itI); (case xs200 => refine' Py.itC ?x201 ?xs201; (case x201 => exact Py.itI); (case xs201 => refine' Py.itC ?x202 ?xs202; (case x202 => exact Py.itI); (case xs202 => exact Py.itN))))); (case xs198 => refine' Py.itC ?x203 ?xs203; (case x203 => refine' Py.itT ?l204 ?r204 ?hs204; (case l204 => k_is); (case hs204 => decide); (case r204 => refine' Py.itC ?x205 ?xs205; (case x205 => exact Py.itI); (case xs205 => refine' Py.itC ?x206 ?xs206; (case x206 => exact Py.itI); (case xs206 => refine' Py.itC ?x207 ?xs207; (case x207 => exact Py.itI); (case xs207 => exact Py.itN))))); (case xs203 => exact Py.itN)))); (case xs196 => refine' Py.itC ?x208 ?xs208; (case x208 => refine' Py.itT ?l209 ?r209 ?hs209; (case l209 => k_is); (case hs209 => decide); (case r209 => refine' Py.itC ?x210 ?xs210; (case x210 => refine' Py.itT ?l211 ?r211 ?hs211; (case l211 => k_is); (case hs211 => decide); (case r211 => refine' Py.itC ?x212 ?xs212; (case x212 => exact Py.itI); (case xs212 => refine' Py.itC ?x213 ?xs213; (case x213 => exact Py.itI); (case xs213 => refine' Py.itC ?x214 ?xs214; (case x214 => exact Py.itI); (case xs214 => refine' Py.itC ?x215 ?xs215; (case x215 => exact Py.itI); (case xs215 => refine' Py.itC ?x216 ?xs216; (case x216 => exact Py.itI); (case xs216 => refine' Py.itC ?x217 ?xs217; (case x217 => exact Py.itI); (case xs217 => exact Py.itN)))))))); (case xs210 => refine' Py.itC ?x218 ?xs218; (case x218 => refine' Py.itT ?l219 ?r219 ?hs219; (case l219 => k_is); (case hs219 => decide); (case r219 => refine' Py.itC ?x220 ?xs220; (case x220 => exact Py.itI); (case xs220 => refine' Py.itC ?x221 ?xs221; (case x221 => exact Py.itI); (case xs221 => refine' Py.itC ?x222 ?xs222; (case x222 => exact Py.itI); (case xs222 => refine' Py.itC ?x223 ?xs223; (case x223 => exact Py.itI); (case xs223 => refine' Py.itC ?x224 ?xs224; (case x224 => exact Py.itI); (case xs224 => refine' Py.itC ?x225 ?xs225; (case x225 => exact Py.itI); (case xs225 => exact Py.itN)))))))); (case xs218 => exact Py.itN)))); (case xs208 => refine' Py.itC ?x226 ?xs226; (case x226 => refine' Py.itT ?l227 ?r227 ?hs227; (case l227 => k_is); (case hs227 => decide); (case r227 => refine' Py.itC ?x228 ?xs228; (case x228 => refine' Py.itT ?l229 ?r229 ?hs229; (case l229 => k_is); (case hs229 => decide); (case r229 => refine' Py.itC ?x230 ?xs230; (case x230 => exact Py.itI); (case xs230 => refine' Py.itC ?x231 ?xs231; (case x231 => exact Py.itI); (case xs231 => refine' Py.itC ?x232 ?xs232; (case x232 => exact Py.itI); (case xs232 => refine' Py.itC ?x233 ?xs233; (case x233 => exact Py.itI); (case xs233 => exact Py.itN)))))); (case xs228 => refine' Py.itC ?x234 ?xs234; (case x234 => refine' Py.itT ?l235 ?r235 ?hs235; (case l235 => k_is); (case hs235 => decide); (case r235 => refine' Py.itC ?x236 ?xs236; (case x236 => exact Py.itI); (case xs236 => refine' Py.itC ?x237 ?xs237; (case x237 => exact Py.itI); (case xs237 => refine' Py.itC ?x238 ?xs238; (case x238 => exact Py.itI); (case xs238 => refine' Py.itC ?x239 ?xs239; (case x239 => exact Py.itI); (case xs239 => exact Py.itN)))))); (case xs234 => exact Py.itN)))); (case xs226 => refine' Py.itC ?x240 ?xs240; (case x240 => refine' Py.itT ?l241 ?r241 ?hs241; (case l241 => k_is); (case hs241 => decide); (case r241 => refine' Py.itC ?x242 ?xs242; (case x242 => refine' Py.itT ?l243 ?r243 ?hs243; (case l243 => k_is); (case hs243 => decide); (case r243 => refine' Py.itC ?x244 ?xs244; (case x244 => exact Py.itI); (case xs244 => refine' Py.itC ?x245 ?xs245; (case x245 => exact Py.itI); (case xs245 => refine' Py.itC ?x246 ?xs246; (case x246 => exact Py.itI); (case xs246 => refine' Py.itC ?x247 ?xs247; (case x247 => exact Py.itI); (case xs247 => refine' Py.itC ?x248 ?xs248; (case x248 => exact Py.itI); (case xs248 => exact Py.itN))))))); (case xs242 => refine' Py.itC ?x249 ?xs249; (case x249 => refine' Py.itT ?l250 ?r250 ?hs250; (case l250 => k_is); (case hs250 => decide); (case r250 => refine' Py.itC ?x251 ?xs251; (case x251 => exact Py.itI); (case xs251 => refine' Py.itC ?x252 ?xs252; (case x252 => exact Py.itI); (case xs252 => exact Py.itN)))); (case xs249 => exact Py.itN)))); (case xs240 => refine' Py.itC ?x253 ?xs253; (case x253 => refine' Py.itT ?l254 ?r254 ?hs254; (case l254 => k_is); (case hs254 => decide); (case r254 => refine' Py.itC ?x255 ?xs255; (case x255 => refine' Py.itT ?l256 ?r256 ?hs256; (case l256 => k_is); (case hs256 => decide); (case r256 => refine' Py.itC ?x257 ?xs257; (case x257 => exact Py.itI); (case xs257 => refine' Py.itC ?x258 ?xs258; (case x258 => exact Py.itI); (case xs258 => refine' Py.itC ?x259 ?xs259; (case x259 => exact Py.itI); (case xs259 => refine' Py.itC ?x260 ?xs260; (case x260 => exact Py.itI); (case xs260 => refine' Py.itC ?x261 ?xs261; (case x261 => exact Py.itI); (case xs261 => exact Py.itN))))))); (case xs255 => refine' Py.itC ?x262 ?xs262; (case x262 => refine' Py.itT ?l263 ?r263 ?hs263; (case l263 => k_is); (case hs263 => decide); (case r263 => refine' Py.itC ?x264 ?xs264; (case x264 => exact Py.itI); (case xs264 => refine' Py.itC ?x265 ?xs265; (case x265 => exact Py.itI); (case xs265 => refine' Py.itC ?x266 ?xs266; (case x266 => exact Py.itI); (case xs266 => refine' Py.itC ?x267 ?xs267; (case x267 => exact Py.itI); (case xs267 => refine' Py.itC ?x268 ?xs268; (case x268 => exact Py.itI); (case xs268 => refine' Py.itC ?x269 ?xs269; (case x269 => exact Py.itI); (case xs269 => exact Py.itN)))))))); (case xs262 => exact Py.itN)))); (case xs253 => exact Py.itN)))))))))))); (case xs134 => refine' Py.esC ?hh270 ?x270 ?xs270; (case hh270 => first | rfl | kernel_rfl); (case x270 => refine' Py.itT ?l271 ?r271 ?hs271; (case l271 => k_is); (case hs271 => decide); (case r271 => refine' Py.itC ?x272 ?xs272; (case x272 => refine' Py.itT ?l273 ?r273 ?hs273; (case l273 => k_is); (case hs273 => decide); (case r273 => refine' Py.itC ?x274 ?xs274; (case x274 => refine' Py.itT ?l275 ?r275 ?hs275; (case l275 => k_is); (case hs275 => decide); (case r275 => refine' Py.itC ?x276 ?xs276; (case x276 => exact Py.itI); (case xs276 => refine' Py.itC ?x277 ?xs277; (case x277 => exact Py.itI); (case xs277 => exact Py.itN)))); (case xs274 => refine' Py.itC ?x278 ?xs278; (case x278 => refine' Py.itT ?l279 ?r279 ?hs279; (case l279 => k_is); (case hs279 => decide); (case r279 => refine' Py.itC ?x280 ?xs280; (case x280 => exact Py.itI); (case xs280 => refine' Py.itC ?x281 ?xs281; (case x281 => exact Py.itI); (case xs281 => refine' Py.itC ?x282 ?xs282; (case x282 => exact Py.itI); (case xs282 => exact Py.itN))))); (case xs278 => exact Py.itN)))); (case xs272 => refine' Py.itC ?x283 ?xs283; (case x283 => refine' Py.itT ?l284 ?r284 ?hs284; (case l284 => k_is); (case hs284 => decide); (case r284 => refine' Py.itC ?x285 ?xs285; (case x285 => refine' Py.itT ?l286 ?r286 ?hs286; (case l286 => k_is); (case hs286 => decide); (case r286 => refine' Py.itC ?x287 ?xs287; (case x287 => exact Py.itI); (case xs287 => refine' Py.itC ?x288 ?xs288; (case x288 => exact Py.itI); (case xs288 => refine' Py.itC ?x289 ?xs289; (case x289 => exact Py.itI); (case xs289 => exact Py.itN))))); (case xs285 => refine' Py.itC ?x290 ?xs290; (case x290 => refine' Py.itT ?l291 ?r291 ?hs291; (case l291 => k_is); (case hs291 => decide); (case r291 => refine' Py.itC ?x292 ?xs292; (case x292 => exact Py.itI); (case xs292 => refine' Py.itC ?x293 ?xs293; (case x293 => exact Py.itI); (case xs293 => exact Py.itN)))); (case xs290 => exact Py.itN)))); (case xs283 => refine' Py.itC ?x294 ?xs294; (case x294 => refine' Py.itT ?l295 ?r295 ?hs295; (case l295 => k_is); (case hs295 => decide); (case r295 => refine' Py.itC ?x296 ?xs296; (case x296 => refine' Py.itT ?l297 ?r297 ?hs297; (case l297 => k_is); (case hs297 => decide); (case r297 => refine' Py.itC ?x298 ?xs298; (case x298 => exact Py.itI); (case xs298 => refine' Py.itC ?x299 ?xs299; (case x299 => exact Py.itI); (case xs299 => refine' Py.itC ?x300 ?xs300; (case x300 => exact Py.itI); (case xs300 => exact Py.itN))))); (case xs296 => refine' Py.itC ?x301 ?xs301; (case x301 => refine' Py.itT ?l302 ?r302 ?hs302; (case l302 => k_is); (case hs302 => decide); (case r302 => refine' Py.itC ?x303 ?xs303; (case x303 => exact Py.itI); (case xs303 => refine' Py.itC ?x304 ?xs304; (case x304 => exact Py.itI); (case xs304 => refine' Py.itC ?x305 ?xs305; (case x305 => exact Py.itI); (case xs305 => exact Py.itN))))); (case xs301 => exact Py.itN)))); (case xs294 => refine' Py.itC ?x306 ?xs306; (case x306 => refine' Py.itT ?l307 ?r307 ?hs307; (case l307 => k_is); (case hs307 => decide); (case r307 => refine' Py.itC ?x308 ?xs308; (case x308 => refine' Py.itT ?l309 ?r309 ?hs309; (case l309 => k_is); (case hs309 => decide); (case r309 => refine' Py.itC ?x310 ?xs310; (case x310 => exact Py.itI); (case xs310 => refine' Py.itC ?x311 ?xs311; (case x311 => exact Py.itI); (case xs311 => refine' Py.itC ?x312 ?xs312; (case x312 => exact Py.itI); (case xs312 => refine' Py.itC ?x313 ?xs313; (case x313 => exact Py.itI); (case xs313 => exact Py.itN)))))); (case xs308 => refine' Py.itC ?x314 ?xs314; (case x314 => refine' Py.itT ?l315 ?r315 ?hs315; (case l315 => k_is); (case hs315 => decide); (case r315 => refine' Py.itC ?x316 ?xs316; (case x316 => exact Py.itI); (case xs316 => refine' Py.itC ?x317 ?xs317; (case x317 => exact Py.itI); (case xs317 => refine' Py.itC ?x318 ?xs318; (case x318 => exact Py.itI); (case xs318 => refine' Py.itC ?x319 ?xs319; (case x319 => exact Py.itI); (case xs319 => exact Py.itN)))))); (case xs314 => exact Py.itN)))); (case xs306 => refine' Py.itC ?x320 ?xs320; (case x320 => refine' Py.itT ?l321 ?r321 ?hs321; (case l321 => k_is); (case hs321 => decide); (case r321 => refine' Py.itC ?x322 ?xs322; (case x322 => refine' Py.itT ?l323 ?r323 ?hs323; (case l323 => k_is); (case hs323 => decide); (case r323 => refine' Py.itC ?x324 ?xs324; (case x324 => exact Py.itI); (case xs324 => refine' Py.itC ?x325 ?xs325; (case x325 => exact Py.itI); (case xs325 => refine' Py.itC ?x326 ?xs326; (case x326 => exact Py.itI); (case xs326 => refine' Py.itC ?x327 ?xs327; (case x327 => exact Py.itI); (case xs327 => exact Py.itN)))))); (case xs322 => refine' Py.itC ?x328 ?xs328; (case x328 => refine' Py.itT ?l329 ?r329 ?hs329; (case l329 => k_is); (case hs329 => decide); (case r329 => refine' Py.itC ?x330 ?xs330; (case x330 => exact Py.itI); (case xs330 => refine' Py.itC ?x331 ?xs331; (case x331 => exact Py.itI); (case xs331 => refine' Py.itC ?x332 ?xs332; (case x332 => exact Py.itI); (case xs332 => refine' Py.itC ?x333 ?xs333; (case x333 => exact Py.itI); (case xs333 => exact Py.itN)))))); (case xs328 => exact Py.itN)))); (case xs320 => refine' Py.itC ?x334 ?xs334; (case x334 => refine' Py.itT ?l335 ?r335 ?hs335; (case l335 => k_is); (case hs335 => decide); (case r335 => refine' Py.itC ?x336 ?xs336; (case x336 => refine' Py.itT ?l337 ?r337 ?hs337; (case l337 => k_is); (case hs337 => decide); (case r337 => refine' Py.itC ?x338 ?xs338; (case x338 => exact Py.itI); (case xs338 => refine' Py.itC ?x339 ?xs339; (case x339 => exact Py.itI); (case xs339 => refine' Py.itC ?x340 ?xs340; (case x340 => exact Py.itI); (case xs340 => refine' Py.itC ?x341 ?xs341; (case x341 => exact Py.itI); (case xs341 => refine' Py.itC ?x342 ?xs342; (case x342 => exact Py.itI); (case xs342 => exact Py.itN))))))); (case xs336 => refine' Py.itC ?x343 ?xs343; (case x343 => refine' Py.itT ?l344 ?r344 ?hs344; (case l344 => k_is); (case hs344 => decide); (case r344 => refine' Py.itC ?x345 ?xs345; (case x345 => exact Py.itI); (case xs345 => refine' Py.itC ?x346 ?xs346; (case x346 => exact Py.itI); (case xs346 => refine' Py.itC ?x347 ?xs347; (case x347 => exact Py.itI); (case xs347 => refine' Py.itC ?x348 ?xs348; (case x348 => exact Py.itI); (case xs348 => refine' Py.itC ?x349 ?xs349; (case x349 => exact Py.itI); (case xs349 => refine' Py.itC ?x350 ?xs350; (case x350 => exact Py.itI); (case xs350 => exact Py.itN)))))))); (case xs343 => exact Py.itN)))); (case xs334 => exact Py.itN)))))))); (case xs270 => exact Py.esN)))
      case bVE => k_is
      case ex =>
        refine' Py.ex_mk ?aF ?dF ?tF ?e_Malformed ?f_Malformed ?v_Malformed ?s_Malformed_Malformed
        (case aF => k_is); (case dF => k_is); (case tF => k_is)
        case e_Malformed => refine' ⟨?a, ?x, ?k, ?t, ⟨?hg, ?hk, ?hs, ?hd, ?ha, ?hn, ?ht, ?hm⟩⟩; (case a => k_is); (case x => k_exc); (case k => k_is); (case t => k_is); (case hg => k_is); (case hk => k_is); (case hs => k_is); (case hd => k_is); (case ha => k_is); (case hn => k_is); (case ht => k_is); (case hm => k_is)
        (case f_Malformed => k_is); (case v_Malformed => k_is)
        (case s_Malformed_Malformed => k_is)


